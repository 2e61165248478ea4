import PyProof.Rows.All
import Wide.All
import OpenK.AllK
import Wide.FinOn
import KE.KStateDown
import KE.KEqNest
import KE.KLam
import KE.SortKeyHeap
import Lean
import HandS.Base
import HandS.Call
import HandS.Ends
import HandS.More
import HandS.Words
import HandS.WordsExc
import HandS.Defaults
import HandS.Head0
import HandS.Head1
import HandS.Head2
import HandS.HeadEnd
import HandS.HeadHook1
import HandS.HeadHook2
import HandS.HeadHook4
import HandS.HeadWalk
import HandS.EndTab
import HandS.Lambda
import HandS.More
import HandS.ForMost
import HandS.IsInst
import HandS.Wide
import HandS.Exc
import HandS.Conv
import HandS.EndBits
import HandS.TupAny
import HandS.DeepEq
import HandS.DictEq
import HandS.ExcOwn
import HandS.ExcIs
import HandS.ExcField
import HandS.TryOnly
import HandS.TryMany
import HandS.HeadHook3
import HandS.Strs
import PySem.Challenge.RW_soothcheck_k51_parts_as_deep_as_may_be
set_option Elab.async false
set_option linter.all false
set_option maxRecDepth 100000
set_option maxHeartbeats 2000000
namespace Mi
open PySem L2

/-! values, objects, results -/
abbrev Txt := List Nat
def tx (s : Txt) : Str := ⟨s.toArray⟩
def tk (s : Txt) : Key := .inr (tx s)
theorem tx_inj {a b : Txt} (h : tx a = tx b) : a = b := by
  have := congrArg (fun s : Str => s.cps.toList) h
  simpa [tx] using this
theorem tx_eq {a b : Txt} : tx a = tx b ↔ a = b := ⟨tx_inj, fun h => by rw [h]⟩
theorem tx_len (a : Txt) : (tx a).length = a.length := by show a.toArray.size = _; simp
theorem tx_app (a b : Txt) : tx a ++ tx b = tx (a ++ b) := by
  show (⟨a.toArray ++ b.toArray⟩ : Str) = ⟨(a ++ b).toArray⟩
  simp
theorem tx_list (a : Txt) : (tx a).cps.toList = a := by simp [tx]
theorem tx_of (s : Str) : tx s.cps.toList = s := by cases s; simp [tx]
theorem tk_inj {a b : Txt} (h : tk a = tk b) : a = b := tx_inj (Sum.inr.inj h)

inductive Val where
  | non | bl (b : Bool) | int (i : Int) | str (s : Txt)
  | tup (xs : List Val) | lst (xs : List Val) | dct (ks : List Txt) (xs : List Val) | loc (n : Nat)

inductive Ob where
  | lst (xs : List Val) | dct (ks : List Txt) (xs : List Val) | ins (c : Nat) (ks : List Txt) (xs : List Val) | dead
abbrev Store := List Ob

structure Exn where
  c : Nat
  ks : List Txt
  xs : List Val

inductive Res (α : Type) where
  | ok (a : α) (st : Store) | ex (e : Exn) (st : Store) | no
def Res.bind {α β : Type} (r : Res α) (f : α → Store → Res β) : Res β := match r with
  | .ok a st => f a st
  | .ex e st => .ex e st
  | .no => .no

/-- the written part, the own classes' addresses -/
structure Gd where
  K : PySem.W.Frag
  ca : Nat → Addr
  xc : Nat → Value
  tb : List (Addr × Str)

/-- a written tuple, a written list -/
def KTup (K : PySem.W.Frag) (a : Addr) (xs : List V) : Prop :=
  ∃ (o : Obj) (its : Array Value) (n : Nat), K.lookup a = some o ∧ o.cls = .type "tuple" ∧ o.data = .seq its n ∧ its.size ≤ sizeLine ∧ Vals xs its.toList
def KLst (K : PySem.W.Frag) (a : Addr) (xs : List V) : Prop :=
  ∃ (o : Obj) (its : Array Value) (n : Nat), K.lookup a = some o ∧ o.cls = .type "list" ∧ o.dict = none ∧ o.data = .seq its n ∧ its.size ≤ sizeLine ∧ Vals xs its.toList
section
variable (g : Gd) (ρ : List Addr) (H : Hp)
def KsOk (ks : List Txt) : Prop := ∀ k ∈ ks, k.length ≤ sizeLine
mutual
def Rel : Val → V → Prop
  | .non, v => v = .non
  | .bl b, v => v = .bl b
  | .int i, v => v = .int i
  | .str s, v => v = .str (tx s) ∧ s.length ≤ sizeLine
  | .tup xs, v => ∃ a vs, v = .ref a ∧ (H a = some (.tup vs) ∨ KTup g.K a vs) ∧ xs.length ≤ sizeLine ∧ Rels xs vs
  | .lst xs, v => ∃ a vs, v = .ref a ∧ ((∃ o, H a = some (.frz o (.lst vs))) ∨ KLst g.K a vs) ∧ xs.length ≤ sizeLine ∧ Rels xs vs
  | .dct ks xs, v => ∃ a kvs, v = .ref a ∧ (∃ o, H a = some (.frz o (.dK kvs))) ∧ xs.length ≤ sizeLine ∧ (kvs.map (·.1) = ks.map tk ∧ KsOk ks) ∧ Rels xs (kvs.map (·.2))
  | .loc n, v => ∃ a, v = .ref a ∧ ρ[n]? = some a
def Rels : List Val → List V → Prop
  | [], vs => vs = []
  | x :: xs, vs => ∃ v r, vs = v :: r ∧ Rel x v ∧ Rels xs r
end
/-- an object of the store at its address -/
def ObR : Ob → Addr → Prop
  | .lst xs, a => ∃ vs, H a = some (.lst vs) ∧ xs.length ≤ sizeLine ∧ Rels g ρ H xs vs
  | .dct ks xs, a => ∃ kvs, H a = some (.dK kvs) ∧ xs.length ≤ sizeLine ∧ (kvs.map (·.1) = ks.map tk ∧ KsOk ks) ∧ Rels g ρ H xs (kvs.map (·.2))
  | .ins c ks xs, a => ∃ dx kvs, H a = some (.ins (g.ca c) dx kvs) ∧ kvs.map (·.1) = ks.map tx ∧ Rels g ρ H xs (kvs.map (·.2))
  | .dead, a => ∃ o u, H a = some (.frz o u)
end

/-- the table at P: a table of code, none of the store's; each code object of it bears the name q -/
def TabW (ρ : List Addr) (H : Hp) (P : Addr) (q : Str) : Prop := P ∉ ρ ∧ ∃ ps : Array Value, H P = some (.tbl ps) ∧ TriplesOk ps.toList ∧ ∀ (pos : Pos) (cv : Value), codeAmong pos ps.toList = some cv → ∃ c, cv = .ref c ∧ c ∉ ρ ∧ H c = some (LamX.CodeO c q)
theorem TabW.mono {ρ ρ' : List Addr} {H H' : Hp} {P : Addr} {q : Str} (t : TabW ρ H P q) (k : ∀ b o, H b = some o → b ∉ ρ → H' b = some o ∧ b ∉ ρ') : TabW ρ' H' P q := by
  obtain ⟨h0, ps, h1, h2, h3⟩ := t
  obtain ⟨k1, k2⟩ := k _ _ h1 h0
  refine ⟨k2, ps, k1, h2, fun pos cv hc => ?_⟩
  obtain ⟨c, e, n, hc⟩ := h3 pos cv hc
  obtain ⟨k3, k4⟩ := k _ _ hc n
  exact ⟨c, e, k4, k3⟩
structure Wd (g : Gd) (ρ : List Addr) (st : Store) (H : Hp) : Prop where
  len : ρ.length = st.length
  nd : ρ.Nodup
  ob : ∀ (n : Nat) o a, st[n]? = some o → ρ[n]? = some a → ObR g ρ H o a
  tb : ∀ q ∈ g.tb, TabW ρ H q.1 q.2

structure Ext0 (ρ : List Addr) (H : Hp) (ρ' : List Addr) (H' : Hp) : Prop where
  pre : ∃ m, ρ' = ρ ++ m
  tup : ∀ a xs, H a = some (.tup xs) → H' a = some (.tup xs)
  frz : ∀ a o u, H a = some (.frz o u) → H' a = some (.frz o u)
structure Ext (ρ : List Addr) (H : Hp) (ρ' : List Addr) (H' : Hp) : Prop where
  pre : ∃ m, ρ' = ρ ++ m
  tup : ∀ a xs, H a = some (.tup xs) → H' a = some (.tup xs)
  frz : ∀ a o u, H a = some (.frz o u) → H' a = some (.frz o u)
  keep : ∀ a o, H a = some o → (∀ ps, o ≠ .tbl ps) → a ∉ ρ → H' a = some o ∧ a ∉ ρ'

section
variable {g : Gd} {ρ ρ' ρ'' : List Addr} {H H' H'' : Hp} {st st' : Store}
theorem Ext.to0 (e : Ext ρ H ρ' H') : Ext0 ρ H ρ' H' := ⟨e.pre, e.tup, e.frz⟩
theorem Ext.refl : Ext ρ H ρ H := ⟨⟨[], by simp⟩, fun _ _ h => h, fun _ _ _ h => h, fun _ _ h _ n => ⟨h, n⟩⟩
theorem Ext.trans (a : Ext ρ H ρ' H') (b : Ext ρ' H' ρ'' H'') : Ext ρ H ρ'' H'' :=
  ⟨by obtain ⟨m, rfl⟩ := a.pre; obtain ⟨k, rfl⟩ := b.pre; exact ⟨m ++ k, by simp⟩,
   fun x o h => b.tup x o (a.tup x o h), fun x o u h => b.frz x o u (a.frz x o u h), fun x o h t n => let ⟨h1, n1⟩ := a.keep x o h t n; b.keep x o h1 t n1⟩
theorem sqT_of {a : Addr} {vs : List V} (h : H a = some (.tup vs) ∨ KTup g.K a vs) : SqT g.K H a vs := by
  rcases h with h | h
  · exact .inl (.inl h)
  · exact .inr h
theorem sqL_of {a : Addr} {vs : List V} (h : (∃ o, H a = some (.frz o (.lst vs))) ∨ KLst g.K a vs) : SqL g.K H a vs := by
  rcases h with h | h
  · exact .inl (.inr h)
  · exact .inr h
mutual
theorem Rel.ext0 (e : Ext0 ρ H ρ' H') : ∀ (x : Val) (v : V), Rel g ρ H x v → Rel g ρ' H' x v
  | .non, _, h => by simpa only [Rel] using h
  | .bl _, _, h => by simpa only [Rel] using h
  | .int _, _, h => by simpa only [Rel] using h
  | .str _, _, h => by simpa only [Rel] using h
  | .tup xs, v, h => by
    simp only [Rel] at h ⊢
    obtain ⟨a, vs, rfl, h1, h2, h3⟩ := h
    refine ⟨a, vs, rfl, ?_, h2, Rels.ext0 e xs vs h3⟩
    rcases h1 with h1 | h1
    · exact .inl (e.tup _ _ h1)
    · exact .inr h1
  | .lst xs, v, h => by
    simp only [Rel] at h ⊢
    obtain ⟨a, vs, rfl, h1, h2, h3⟩ := h
    refine ⟨a, vs, rfl, ?_, h2, Rels.ext0 e xs vs h3⟩
    rcases h1 with ⟨o, h1⟩ | h1
    · exact .inl ⟨o, e.frz _ _ _ h1⟩
    · exact .inr h1
  | .dct ks xs, v, h => by
    simp only [Rel] at h ⊢
    obtain ⟨a, kvs, rfl, ⟨o, h1⟩, h2, h3, h4⟩ := h
    exact ⟨a, kvs, rfl, ⟨o, e.frz _ _ _ h1⟩, h2, h3, Rels.ext0 e xs _ h4⟩
  | .loc n, v, h => by
    simp only [Rel] at h ⊢
    obtain ⟨a, rfl, h⟩ := h
    obtain ⟨m, rfl⟩ := e.pre
    refine ⟨a, rfl, ?_⟩
    rw [List.getElem?_append_left (List.getElem?_eq_some_iff.mp h).1]; exact h
theorem Rels.ext0 (e : Ext0 ρ H ρ' H') : ∀ (xs : List Val) (vs : List V), Rels g ρ H xs vs → Rels g ρ' H' xs vs
  | [], _, h => by simpa only [Rels] using h
  | x :: xs, vs, h => by
    simp only [Rels] at h ⊢
    obtain ⟨v, r, rfl, h1, h2⟩ := h
    exact ⟨v, r, rfl, Rel.ext0 e x v h1, Rels.ext0 e xs r h2⟩
end
theorem Rel.ext (e : Ext ρ H ρ' H') (x : Val) (v : V) (h : Rel g ρ H x v) : Rel g ρ' H' x v := Rel.ext0 e.to0 x v h
theorem Rels.ext (e : Ext ρ H ρ' H') (xs : List Val) (vs : List V) (h : Rels g ρ H xs vs) : Rels g ρ' H' xs vs := Rels.ext0 e.to0 xs vs h
theorem Rels.length : ∀ {xs : List Val} {vs : List V}, Rels g ρ H xs vs → xs.length = vs.length
  | [], _, h => by simp only [Rels] at h; subst h; rfl
  | x :: xs, vs, h => by
    simp only [Rels] at h
    obtain ⟨v, r, rfl, h1, h2⟩ := h
    simp [Rels.length h2]
theorem Rels.nil : Rels g ρ H [] [] := by simp only [Rels]
theorem Rels.cons {x : Val} {xs : List Val} {v : V} {vs : List V} (h : Rel g ρ H x v) (t : Rels g ρ H xs vs) : Rels g ρ H (x :: xs) (v :: vs) := by
  simp only [Rels]; exact ⟨v, vs, rfl, h, t⟩
theorem Rels.cons_inv {x : Val} {xs : List Val} {vs : List V} (h : Rels g ρ H (x :: xs) vs) : ∃ v r, vs = v :: r ∧ Rel g ρ H x v ∧ Rels g ρ H xs r := by
  simpa only [Rels] using h
theorem Rels.append : ∀ {xs ys : List Val} {vs us : List V}, Rels g ρ H xs vs → Rels g ρ H ys us → Rels g ρ H (xs ++ ys) (vs ++ us)
  | [], _, _, _, h, t => by simp only [Rels] at h; subst h; exact t
  | x :: xs, _, _, _, h, t => by
    obtain ⟨v, r, rfl, h1, h2⟩ := h.cons_inv
    exact .cons h1 (Rels.append h2 t)
theorem Rels.get : ∀ {xs : List Val} {vs : List V} {i : Nat} {x : Val}, Rels g ρ H xs vs → xs[i]? = some x → ∃ v, vs[i]? = some v ∧ Rel g ρ H x v
  | [], _, _, _, _, e => by simp at e
  | x :: xs, _, 0, _, h, e => by
    obtain ⟨v, r, rfl, h1, h2⟩ := h.cons_inv
    simp at e; subst e; exact ⟨v, rfl, h1⟩
  | x :: xs, _, i + 1, _, h, e => by
    obtain ⟨v, r, rfl, h1, h2⟩ := h.cons_inv
    simpa using Rels.get (i := i) h2 (by simpa using e)
theorem Rels.getV {xs : List Val} {vs : List V} {i : Nat} {v : V} (h : Rels g ρ H xs vs) (e : vs[i]? = some v) : ∃ x, xs[i]? = some x ∧ Rel g ρ H x v := by
  have hl : i < xs.length := by rw [h.length]; exact (List.getElem?_eq_some_iff.mp e).1
  obtain ⟨u, h1, h2⟩ := h.get (List.getElem?_eq_getElem hl)
  rw [e] at h1; cases h1
  exact ⟨_, List.getElem?_eq_getElem hl, h2⟩
theorem Rels.take : ∀ {xs : List Val} {vs : List V} (n : Nat), Rels g ρ H xs vs → Rels g ρ H (xs.take n) (vs.take n)
  | [], _, n, h => by simp only [Rels] at h; subst h; simp [Rels]
  | x :: xs, _, 0, h => by simp [Rels]
  | x :: xs, _, n + 1, h => by
    obtain ⟨v, r, rfl, h1, h2⟩ := h.cons_inv
    exact .cons h1 (Rels.take n h2)
theorem Rels.drop : ∀ {xs : List Val} {vs : List V} (n : Nat), Rels g ρ H xs vs → Rels g ρ H (xs.drop n) (vs.drop n)
  | [], _, n, h => by simp only [Rels] at h; subst h; simp [Rels]
  | x :: xs, _, 0, h => h
  | x :: xs, _, n + 1, h => by
    obtain ⟨v, r, rfl, h1, h2⟩ := h.cons_inv
    exact Rels.drop n h2
theorem Rels.set : ∀ {xs : List Val} {vs : List V} {x : Val} {v : V} (n : Nat), Rels g ρ H xs vs → Rel g ρ H x v → Rels g ρ H (xs.set n x) (vs.set n v)
  | [], _, _, _, n, h, _ => by simp only [Rels] at h; subst h; simp [Rels]
  | y :: xs, _, _, _, 0, h, hx => by
    obtain ⟨v, r, rfl, h1, h2⟩ := h.cons_inv
    exact .cons hx h2
  | y :: xs, _, _, _, n + 1, h, hx => by
    obtain ⟨v, r, rfl, h1, h2⟩ := h.cons_inv
    exact .cons h1 (Rels.set n h2 hx)
theorem ObR.ext0 (e : Ext0 ρ H ρ' H') {o : Ob} {a : Addr} (h : ObR g ρ H o a) (k : H' a = H a) : ObR g ρ' H' o a := by
  cases o with
  | lst xs => obtain ⟨vs, h1, h2, h3⟩ := h; exact ⟨vs, k.trans h1, h2, h3.ext0 e⟩
  | dct ks xs => obtain ⟨vs, h1, h2, h3, h4⟩ := h; exact ⟨vs, k.trans h1, h2, h3, h4.ext0 e⟩
  | ins c fs xs => obtain ⟨dx, vs, h1, h2, h3⟩ := h; exact ⟨dx, vs, k.trans h1, h2, h3.ext0 e⟩
  | dead => obtain ⟨o, u, h1⟩ := h; exact ⟨o, u, k.trans h1⟩
theorem ObR.ext (e : Ext ρ H ρ' H') {o : Ob} {a : Addr} (h : ObR g ρ H o a) (k : H' a = H a) : ObR g ρ' H' o a := ObR.ext0 e.to0 h k
theorem ObR.there {o : Ob} {a : Addr} (h : ObR g ρ H o a) : ∃ u, H a = some u := by
  cases o with
  | lst xs => obtain ⟨vs, h1, _⟩ := h; exact ⟨_, h1⟩
  | dct ks xs => obtain ⟨vs, h1, _⟩ := h; exact ⟨_, h1⟩
  | ins c fs xs => obtain ⟨dx, vs, h1, _⟩ := h; exact ⟨_, h1⟩
  | dead => obtain ⟨o, u, h1⟩ := h; exact ⟨_, h1⟩
theorem Wd.there (w : Wd g ρ st H) {a : Addr} (h : a ∈ ρ) : ∃ u, H a = some u := by
  obtain ⟨n, hn, e⟩ := List.getElem_of_mem h
  have hn' : n < st.length := by rw [← w.len]; exact hn
  exact (w.ob n _ a (List.getElem?_eq_getElem hn') (by rw [List.getElem?_eq_getElem hn, e])).there
theorem Wd.fresh (w : Wd g ρ st H) {p : Addr} (h : H p = none) : p ∉ ρ := fun m => by
  obtain ⟨u, e⟩ := w.there m
  rw [h] at e; cases e
theorem Ext.write {p : Addr} {o : HO} (hp : p ∈ ρ) (h1 : ∀ xs, H p ≠ some (.tup xs)) (h2 : ∀ o u, H p ≠ some (.frz o u)) : Ext ρ H ρ (upd H p o) :=
  ⟨⟨[], by simp⟩, fun a xs q => by rw [upd_ne (fun z => h1 xs (by rw [← z]; exact q))]; exact q, fun a o u q => by rw [upd_ne (fun z => h2 o u (by rw [← z]; exact q))]; exact q,
   fun a o q _ n => ⟨by rw [upd_ne (fun z => n (by rw [z]; exact hp))]; exact q, n⟩⟩
/-- a new object that is not of the store -/
theorem Ext.new {p : Addr} {o : HO} (h : H p = none) : Ext ρ H ρ (upd H p o) :=
  ⟨⟨[], by simp⟩, fun a xs q => by rw [upd_ne (ne_of_none q h)]; exact q, fun a o u q => by rw [upd_ne (ne_of_none q h)]; exact q, fun a o q _ n => ⟨by rw [upd_ne (ne_of_none q h)]; exact q, n⟩⟩
theorem Wd.new (w : Wd g ρ st H) {p : Addr} {o : HO} (h : H p = none) : Wd g ρ st (upd H p o) :=
  ⟨w.len, w.nd, fun n ob a h1 h2 => (w.ob n ob a h1 h2).ext (Ext.new h) (by
    obtain ⟨u, e⟩ := (w.ob n ob a h1 h2).there
    rw [upd_ne (ne_of_none e h)]), fun q hq => (w.tb q hq).mono fun b o e n => ⟨by rw [upd_ne (ne_of_none e h)]; exact e, n⟩⟩
/-- a new object is locked -/
theorem upd_lock {p : Addr} {o u : HO} : upd (upd H p o) p u = upd H p u := upd_upd
/-- a new object of the store -/
theorem Ext.alloc {p : Addr} {o : HO} (h : H p = none) : Ext ρ H (ρ ++ [p]) (upd H p o) :=
  ⟨⟨[p], rfl⟩, fun a xs q => by rw [upd_ne (ne_of_none q h)]; exact q, fun a o u q => by rw [upd_ne (ne_of_none q h)]; exact q, fun a o q _ n => ⟨by rw [upd_ne (ne_of_none q h)]; exact q, by
    simp only [List.mem_append, List.mem_singleton, not_or]
    exact ⟨n, ne_of_none q h⟩⟩⟩
theorem Wd.alloc (w : Wd g ρ st H) {p : Addr} {o : HO} {ob : Ob} (h : H p = none) (hob : ObR g (ρ ++ [p]) (upd H p o) ob p) : Wd g (ρ ++ [p]) (st ++ [ob]) (upd H p o) := by
  refine ⟨by simp [w.len], ?_, fun n ob' a h1 h2 => ?_, fun q hq => (w.tb q hq).mono fun b o e n => ⟨by rw [upd_ne (ne_of_none e h)]; exact e, by
    simp only [List.mem_append, List.mem_singleton, not_or]
    exact ⟨n, ne_of_none e h⟩⟩⟩
  · rw [List.nodup_append]
    refine ⟨w.nd, by simp, fun a ha b hb e => ?_⟩
    have hb' : b = p := by simpa using hb
    subst hb'; subst e
    exact w.fresh h ha
  · by_cases hn : n < st.length
    · rw [List.getElem?_append_left hn] at h1
      rw [List.getElem?_append_left (by rw [w.len]; exact hn)] at h2
      obtain ⟨u, e⟩ := (w.ob n ob' a h1 h2).there
      exact (w.ob n ob' a h1 h2).ext (Ext.alloc h) (by rw [upd_ne (ne_of_none e h)])
    · have hn1 : n = st.length := by
        have := (List.getElem?_eq_some_iff.mp h1).1
        simp at this; omega
      subst hn1
      rw [List.getElem?_append_right (Nat.le_refl _)] at h1
      rw [List.getElem?_append_right (by rw [w.len]; exact Nat.le_refl _)] at h2
      simp at h1
      rw [w.len] at h2
      simp at h2
      subst h1; subst h2
      exact hob
/-- an object of the store is written (or locked) -/
theorem Wd.write (w : Wd g ρ st H) {n : Nat} {a : Addr} {o : HO} {ob : Ob} (h : ρ[n]? = some a) (e : Ext ρ H ρ (upd H a o)) (hob : ObR g ρ (upd H a o) ob a) : Wd g ρ (st.set n ob) (upd H a o) := by
  refine ⟨by simp [w.len], w.nd, fun m ob' b h1 h2 => ?_, fun q hq => (w.tb q hq).mono fun b u e' n => ⟨by rw [upd_ne (fun z => n (by rw [z]; exact List.mem_of_getElem? h))]; exact e', n⟩⟩
  by_cases hm : n = m
  · subst hm
    rw [h] at h2; cases h2
    have hn : n < st.length := by rw [← w.len]; exact (List.getElem?_eq_some_iff.mp h).1
    rw [List.getElem?_set_self hn] at h1; cases h1
    exact hob
  · rw [List.getElem?_set_ne hm] at h1
    have hne : b ≠ a := fun z => by
      subst z
      exact hm (nd_ix w.nd h h2)
    exact (w.ob m ob' b h1 h2).ext e (by rw [upd_ne hne])
end
end Mi
namespace Mi
open PySem L2

/-! syntax -/
inductive BO where | add | sub | mul | fdiv | mod | pow
  deriving DecidableEq
inductive CO where | eq | ne | lt | le | gt | ge | isin | notin
  deriving DecidableEq
inductive FO where | len | abs | sum | int | str | list | tuple | sorted | all | any | max | min | ssort | dict | lset
  deriving DecidableEq
inductive MO where | append | extend | join | split | upper | startswith | endswith | replace | strip | isalnum | index | items
  deriving DecidableEq
inductive TyN where | int | str | bool | list | tuple | dict
  deriving DecidableEq
inductive Tg where | nm (i : Nat) | tp (is : List Nat)

abbrev Env := List (Option Val)

/-! values' operations -/
def asL (st : Store) : Val → Option (List Val)
  | .lst xs => some xs
  | .loc n => match st[n]? with
    | some (.lst xs) => some xs
    | _ => none
  | _ => none
def asD (st : Store) : Val → Option (List Txt × List Val)
  | .dct ks xs => some (ks, xs)
  | .loc n => match st[n]? with
    | some (.dct ks xs) => some (ks, xs)
    | _ => none
  | _ => none
/-- a list or a tuple -/
def asS (st : Store) : Val → Option (List Val)
  | .tup xs => some xs
  | v => asL st v

def keyOf : Val → Option Txt
  | .str s => some s
  | _ => none
def look (k : Txt) : List Txt → List Val → Option Val
  | k' :: ks, x :: xs => if k' = k then some x else look k ks xs
  | _, _ => none
def setA (k : Txt) (v : Val) : List Txt → List Val → List Val
  | k' :: ks, x :: xs => (if k' = k then v else x) :: setA k v ks xs
  | _, xs => xs
def putD (k : Txt) (v : Val) (ks : List Txt) (xs : List Val) : List Txt × List Val :=
  if k ∈ ks then (ks, setA k v ks xs) else (ks ++ [k], xs ++ [v])

def truth : Val → Option Bool
  | .bl b => some b
  | _ => none

def intsV : List Val → Option (List Int)
  | [] => some []
  | .int i :: r => (intsV r).map (i :: ·)
  | _ => none
def strsV : List Val → Option (List Txt)
  | [] => some []
  | .str i :: r => (strsV r).map (i :: ·)
  | _ => none
def blsV : List Val → Option (List Bool)
  | [] => some []
  | .bl i :: r => (blsV r).map (i :: ·)
  | _ => none

/-- == of data, nesting below n -/
def eqz (f : Val → Val → Option Bool) : List Val → List Val → Option Bool
  | x :: xs, y :: ys => (f x y).bind fun b => (eqz f xs ys).map (b && ·)
  | _, _ => some true
/-- a flat value -/
def flat : Val → Bool
  | .non => true | .bl _ => true | .int _ => true | .str _ => true | _ => false
def isTup : Val → Bool
  | .tup _ => true | _ => false
def eqf : Val → Val → Bool
  | .non, .non => true
  | .bl a, .bl b => a == b
  | .int a, .int b => a == b
  | .str a, .str b => a == b
  | .bl a, .int b => (if a then 1 else 0) == b
  | .int a, .bl b => a == (if b then 1 else 0)
  | _, _ => false
/-- how a value is seen by == -/
inductive Sv where | flt | tup (xs : List Val) | lst (xs : List Val) | dct (ks : List Txt) (xs : List Val)
def view (st : Store) : Val → Option Sv
  | .non => some .flt
  | .bl _ => some .flt
  | .int _ => some .flt
  | .str _ => some .flt
  | .tup xs => some (.tup xs)
  | .lst xs => some (.lst xs)
  | .dct ks xs => some (.dct ks xs)
  | .loc n => match st[n]? with
    | some (.lst xs) => some (.lst xs)
    | some (.dct ks xs) => some (.dct ks xs)
    | _ => none
def eqd (f : Val → Val → Option Bool) (ls : List Txt) (ys : List Val) : List Txt → List Val → Option Bool
  | k :: ks, x :: xs => match look k ls ys with
    | none => some false
    | some y => (f x y).bind fun b => (eqd f ls ys ks xs).map (b && ·)
  | _, _ => some true
def eqv (st : Store) : Nat → Val → Val → Option Bool
  | 0, _, _ => none
  | n + 1, x, y => match view st x, view st y with
    | some .flt, some .flt => some (eqf x y)
    | some (.tup xs), some (.tup ys) => (eqz (eqv st n) xs ys).map (· && xs.length == ys.length)
    | some (.lst xs), some (.lst ys) => if xs.length = ys.length then eqz (eqv st n) xs ys else some false
    | some (.dct ks xs), some (.dct ls ys) => if ks.length = ls.length then eqd (eqv st n) ls ys ks xs else some false
    | some _, some _ => some false
    | _, _ => none

def ixV (st : Store) (a b : Val) : Option Val := match a, b with
  | .tup xs, .int i => atI xs i
  | .str s, .int i => (atI s i).map fun c => .str [c]
  | .lst xs, .int i => atI xs i
  | .loc n, b => match st[n]? with
    | some (.lst xs) => (match b with | .int i => atI xs i | _ => none)
    | some (.dct ks xs) => (keyOf b).bind fun k => look k ks xs
    | _ => none
  | .dct ks xs, b => (keyOf b).bind fun k => look k ks xs
  | _, _ => none

def repT (s : Txt) : Nat → Txt
  | 0 => []
  | n + 1 => s ++ repT s n
def addV (st : Store) (a b : Val) : Option Val := match a, b with
  | .int i, .int j => some (.int (i + j))
  | .str x, .str y => if x.length + y.length ≤ sizeLine then some (.str (x ++ y)) else none
  | .tup xs, .tup ys => if xs.length + ys.length ≤ sizeLine then some (.tup (xs ++ ys)) else none
  | a, b => (asL st a).bind fun xs => (asL st b).bind fun ys => if xs.length + ys.length ≤ sizeLine then some (.lst (xs ++ ys)) else none
def binV (st : Store) (o : BO) (a b : Val) : Option Val := match o with
  | .add => addV st a b
  | .sub => (match a, b with | .int i, .int j => some (.int (i - j)) | _, _ => none)
  | .mul => (match a, b with
    | .int i, .int j => if (-(2 ^ 64) < i ∧ i < 2 ^ 64) ∨ (-(2 ^ 64) < j ∧ j < 2 ^ 64) then some (.int (i * j)) else none
    | .str s, .int j => if 0 ≤ j ∧ j < 2 ^ 24 ∧ s.length * j.toNat ≤ 16777216 then some (.str (repT s j.toNat)) else none
    | _, _ => none)
  | .fdiv => (match a, b with | .int i, .int j => if 0 < j ∧ j < 2 ^ 200 then some (.int (i / j)) else none | _, _ => none)
  | .mod => (match a, b with | .int i, .int j => if 0 < j then some (.int (i % j)) else none | _, _ => none)
  | .pow => (match a, b with | .int i, .int j => if 0 ≤ j ∧ j ≤ 1000000 ∧ -(2 ^ 63) < i ∧ i < 2 ^ 63 then some (.int (i ^ j.toNat)) else none | _, _ => none)

def inV' (st : Store) (x : Val) : List Val → Option Bool
  | [] => some false
  | y :: ys => (eqv st 60 y x).bind fun b => (inV' st x ys).map (b || ·)
/-- x in y -/
def isinV (st : Store) (a b : Val) : Option Bool := match b with
  | .str z => (match a with
    | .str [c] => some (decide (c ∈ z))
    | _ => none)
  | .tup xs => inV' st a xs
  | .lst xs => inV' st a xs
  | .dct ks xs => (keyOf a).map fun k => (look k ks xs).isSome
  | .loc n => (match st[n]? with
    | some (.lst xs) => inV' st a xs
    | some (.dct ks xs) => (keyOf a).map fun k => (look k ks xs).isSome
    | _ => none)
  | _ => none
def ltT : Txt → Txt → Bool
  | [], [] => false
  | [], _ :: _ => true
  | _ :: _, [] => false
  | a :: as, b :: bs => if a < b then true else if b < a then false else ltT as bs
def neV (st : Store) (a b : Val) : Option Bool := match view st a, view st b with
  | some .flt, some .flt => some (!eqf a b)
  | some (.tup xs), some (.tup ys) => (eqz (eqv st 59) xs ys).map fun b => !(b && xs.length == ys.length)
  | some (.lst xs), some (.lst ys) => if xs.length = ys.length then (eqz (eqv st 59) xs ys).map (!·) else some true
  | _, _ => none
def cmpV (st : Store) (o : CO) (a b : Val) : Option Bool := match o with
  | .eq => eqv st 60 a b
  | .ne => neV st a b
  | .lt => (match a, b with | .int i, .int j => some (decide (i < j)) | .str x, .str y => some (ltT x y) | _, _ => none)
  | .le => (match a, b with | .int i, .int j => some (decide (i ≤ j)) | .str x, .str y => some (!ltT y x) | _, _ => none)
  | .gt => (match a, b with | .int i, .int j => some (decide (j < i)) | .str x, .str y => some (ltT y x) | _, _ => none)
  | .ge => (match a, b with | .int i, .int j => some (decide (j ≤ i)) | .str x, .str y => some (!ltT x y) | _, _ => none)
  | .isin => isinV st a b
  | .notin => (isinV st a b).map (!·)

def insT (x : Txt) : List Txt → List Txt
  | [] => [x]
  | y :: ys => if ltT y x then y :: insT x ys else x :: y :: ys
/-- texts in order -/
def sortT : List Txt → List Txt
  | [] => []
  | x :: xs => insT x (sortT xs)
def insU (x : Txt) : List Txt → List Txt
  | [] => [x]
  | y :: ys => if ltT y x then y :: insU x ys else if ltT x y then x :: y :: ys else y :: ys
/-- texts in order, each once -/
def sortU : List Txt → List Txt
  | [] => []
  | x :: xs => insU x (sortU xs)
/-- pairs by their texts, stable -/
def insK (x : Txt × Val) : List (Txt × Val) → List (Txt × Val)
  | [] => [x]
  | y :: ys => if ltT y.1 x.1 then y :: insK x ys else x :: y :: ys
def sortKs : List (Txt × Val) → List (Txt × Val)
  | [] => []
  | x :: xs => insK x (sortKs xs)
def joinT (sep : Txt) : List Txt → Txt
  | [] => []
  | [x] => x
  | x :: y :: r => x ++ sep ++ joinT sep (y :: r)

/-- the parts between the signs c -/
def splitC (c : Nat) : Txt → List Txt
  | [] => [[]]
  | a :: r => if a = c then [] :: splitC c r else match splitC c r with
    | p :: ps => (a :: p) :: ps
    | [] => [[a]]
def lenV (st : Store) : List Val → Option Val
  | [.str s] => some (.int s.length)
  | [v] => (match asS st v with
    | some xs => some (.int xs.length)
    | none => (asD st v).map fun p => .int p.2.length)
  | _ => none
def tupleV (st : Store) : List Val → Option Val
  | [.tup xs] => some (.tup xs)
  | [v] => (asL st v).map .tup
  | _ => none
/-- list(x), a sequence or a dict's keys -/
def listV (st : Store) (v : Val) : Option (List Val) := match asS st v with
  | some xs => some xs
  | none => (asD st v).map fun p => p.1.map .str
def toS (i : Int) : Txt := (toString i).toList.map Char.toNat
def fnV (st : Store) (f : FO) (as : List Val) : Option Val := match f with
  | .len => lenV st as
  | .abs => (match as with | [.int i] => some (.int (if i < 0 then -i else i)) | _ => none)
  | .sum => (match as with | [v] => (asL st v).bind fun xs => (intsV xs).map fun ns => .int ns.sum | _ => none)
  | .int => (match as with | [.int i] => some (.int i) | [.bl b] => some (.int (if b then 1 else 0)) | _ => none)
  | .str => (match as with | [.int i] => if i.natAbs < 2 ^ 300 ∧ (toS i).length ≤ sizeLine then some (.str (toS i)) else none | _ => none)
  | .list => (match as with | [v] => (listV st v).map .lst | _ => none)
  | .tuple => tupleV st as
  | .all => (match as with | [v] => (asL st v).bind fun xs => (blsV xs).map fun bs => .bl (bs.all id) | _ => none)
  | .any => (match as with | [v] => (asL st v).bind fun xs => (blsV xs).map fun bs => .bl (bs.any id) | _ => none)
  | .max => (match as with | [.int i, .int j] => some (.int (if j > i then j else i)) | _ => none)
  | .min => (match as with | [.int i, .int j] => some (.int (if j < i then j else i)) | _ => none)
  | .sorted => (match as with | [v] => (asL st v).bind fun xs => (strsV xs).bind fun ts => if ts.length < 64 then some (.lst ((sortT ts).map .str)) else none | _ => none)
  | .ssort => (match as with | [v] => (asL st v).bind fun xs => (strsV xs).bind fun ts => if ts.length < 64 then some (.lst ((sortU ts).map .str)) else none | _ => none)
  | _ => none

/-- what a method is asked of, ahead of its arguments -/
def mtOk (m : MO) (x : Val) (st : Store) : Bool := match m, x with
  | .append, .loc n => (match st[n]? with | some (.lst _) => true | _ => false)
  | .extend, .loc n => (match st[n]? with | some (.lst _) => true | _ => false)
  | .append, _ => false
  | .extend, _ => false
  | _, .str _ => true
  | _, _ => false
def mtV (m : MO) (o : Val) (as : List Val) (st : Store) : Option (Val × Store) := match m with
  | .append => (match o, as with
    | .loc n, [v] => (match st[n]? with
      | some (.lst xs) => if xs.length < sizeLine then some (.non, st.set n (.lst (xs ++ [v]))) else none
      | _ => none)
    | _, _ => none)
  | .join => (match o, as with
    | .str sep, [v] => (match (asL st v).bind strsV with
      | some ts => if (ts.map (·.length)).sum + ts.length * sep.length ≤ 16777216 then some (.str (joinT sep ts), st) else none
      | _ => none)
    | _, _ => none)
  | .upper => (match o, as with
    | .str s, [] => if s.all (fun c => decide (97 ≤ c ∧ c ≤ 122)) ∧ s.length ≤ 5592405 then some (.str (s.map (· - 32)), st) else none
    | _, _ => none)
  | .startswith => (match o, as with
    | .str s, [.str t] => some (.bl (t.isPrefixOf s), st)
    | _, _ => none)
  | .extend => (match o, as with
    | .loc n, [v] => (match st[n]? with
      | some (.lst xs) => (match asS st v with
        | some ys => if xs.length + ys.length ≤ sizeLine then some (.non, st.set n (.lst (xs ++ ys))) else none
        | none => none)
      | _ => none)
    | _, _ => none)
  | .split => (match o, as with
    | .str s, [.str [c]] => if c < 256 ∧ s.length + 2 ≤ sizeLine then some (.lst ((splitC c s).map .str), st) else none
    | _, _ => none)
  | _ => none

def isiV : TyN → Val → Option Bool
  | t, .int _ => some (match t with | .int => true | _ => false)
  | t, .bl _ => some (match t with | .int => true | .bool => true | _ => false)
  | t, .str _ => some (match t with | .str => true | _ => false)
  | t, .non => some false
  | t, .tup _ => some (match t with | .tuple => true | _ => false)
  | t, .lst _ => some (match t with | .list => true | _ => false)
  | t, .dct _ _ => some (match t with | .dict => true | _ => false)
  | _, _ => none

def cut {α : Type} (xs : List α) (lo hi : Option Int) : List α := (xs.drop (HT.sIx xs.length 0 lo)).take (HT.sIx xs.length xs.length hi - HT.sIx xs.length 0 lo)
def slV (st : Store) (a : Val) (lo hi : Option Int) : Option Val := match a with
  | .str s => some (.str (cut s lo hi))
  | .tup s => some (.tup (cut s lo hi))
  | a => (asL st a).map fun s => .lst (cut s lo hi)

/-- what is walked: the items; the list of the store, if it is one -/
def itemsOf (st : Store) : Val → Option (List Val × Option Nat)
  | .lst xs => some (xs, none)
  | .tup xs => some (xs, none)
  | .str s => some (s.map fun c => .str [c], none)
  | .dct ks _ => some (ks.map .str, none)
  | .loc n => match st[n]? with
    | some (.lst xs) => some (xs, some n)
    | _ => none
  | _ => none

def opt {α : Type} (o : Option α) (st : Store) : Res α := match o with
  | some v => .ok v st
  | none => .no

def wipeE (η : Env) : List Nat → Env
  | [] => η
  | v :: vs => (wipeE η vs).set v none
def asgs : List Nat → List Val → Env → Option Env
  | [], [], η => some η
  | i :: is, v :: vs, η => asgs is vs (η.set i (some v))
  | _, _, _ => none
def asgTg (tg : Tg) (v : Val) (η : Env) : Option Env := match tg, v with
  | .nm i, v => some (η.set i (some v))
  | .tp is, .tup xs => asgs is xs η
  | _, _ => none

def sameL (n : Nat) (xs : List Val) (st : Store) : Prop := st[n]? = some (.lst xs)
open Classical in
noncomputable def ckOf (n : Option Nat) (xs : List Val) (st : Store) : Bool := match n with
  | none => true
  | some n => decide (sameL n xs st)
/-! a list comprehension's turns over the items xs: T the test, E the element -/
def Res.bindN {α β : Type} (r : Res α) (f : α → Store → Res β) : Res β := match r with
  | .ok a st => f a st
  | _ => .no
def lcLoop (ck : Store → Bool) (tg : Tg) (η : Env) (T : Env → Store → Res Bool) (E : Env → Store → Res Val) : List Val → List Val → Store → Res (List Val)
  | [], acc, st => if ck st then .ok acc st else .no
  | x :: xs, acc, st => if ck st then (match asgTg tg x η with
    | none => .no
    | some η1 => (T η1 st).bindN fun b st1 => match b with
      | true => (E η1 st1).bindN fun v st2 => if acc.length < sizeLine then lcLoop ck tg η T E xs (acc ++ [v]) st2 else .no
      | false => lcLoop ck tg η T E xs acc st1) else .no

def pairUp : List Val → Option (List Txt × List Val)
  | [] => some ([], [])
  | k :: v :: r => (keyOf k).bind fun k => (pairUp r).map fun p => (k :: p.1, v :: p.2)
  | _ => none
def putAll : List Txt → List Val → List Txt × List Val → List Txt × List Val
  | k :: ks, v :: vs, d => putAll ks vs (putD k v d.1 d.2)
  | _, _, d => d
/-- pairs as dict() takes them -/
def pairsOf : List Val → Option (List Txt × List Val)
  | [] => some ([], [])
  | .tup [.str k, v] :: r => (pairsOf r).map fun p => (k :: p.1, v :: p.2)
  | _ => none
def dictV (st : Store) (v : Val) : Option (List Txt × List Val) := asD st v
/-- rows by their texts -/
def rowsOf : List Val → Option (List (Txt × Val))
  | [] => some []
  | .tup (.str k :: r) :: rs => (rowsOf rs).map fun p => (k, .tup (.str k :: r)) :: p
  | _ => none

/-! all that a value reaches is frozen -/
mutual
def frzV : Nat → Val → Store → Option (Val × Store)
  | 0, _, _ => none
  | n + 1, v, st => match v with
    | .loc m => (match st[m]? with
      | some (.lst xs) => (frzL n xs (st.set m .dead)).map fun p => (.lst p.1, p.2)
      | some (.dct ks xs) => (frzL n xs (st.set m .dead)).map fun p => (.dct ks p.1, p.2)
      | _ => none)
    | .tup xs => (frzL n xs st).map fun p => (.tup p.1, p.2)
    | v => some (v, st)
def frzL : Nat → List Val → Store → Option (List Val × Store)
  | 0, _, _ => none
  | _ + 1, [], st => some ([], st)
  | n + 1, x :: xs, st => (frzV n x st).bind fun p => (frzL n xs p.2).map fun q => (p.1 :: q.1, q.2)
end

end Mi
namespace Mi
open PySem L2

def Slots (g : Gd) (ρ : List Addr) (H : Hp) (η : Env) (σ : St) : Prop :=
  η.length = σ.length ∧ ∀ (i : Nat) v, η[i]? = some (some v) → ∃ V, σ[i]? = some (some V) ∧ Rel g ρ H v V
def XR (g : Gd) (ρ : List Addr) (H : Hp) (e : Exn) (cls : Value) (d : Option Addr) : Prop :=
  cls = g.xc e.c ∧ ((e.ks = [] ∧ e.xs = [] ∧ d = none) ∨ ∃ a kvs, d = some a ∧ H a = some (.xd kvs) ∧ (e.ks ≠ [] ∧ kvs.map (·.1) = e.ks.map tx) ∧ Rels g ρ H e.xs (kvs.map (·.2)))

section
variable {g : Gd} {ρ ρ' : List Addr} {H H' : Hp} {st : Store} {α β : Type}
theorem Slots.ext {η : Env} {σ : St} (s : Slots g ρ H η σ) (e : Ext ρ H ρ' H') : Slots g ρ' H' η σ :=
  ⟨s.1, fun i v h => let ⟨V, h1, h2⟩ := s.2 i v h; ⟨V, h1, h2.ext e⟩⟩
theorem Slots.set {η : Env} {σ : St} (s : Slots g ρ H η σ) {v : Val} {V : L2.V} (i : Nat) (h : Rel g ρ H v V) : Slots g ρ H (η.set i (some v)) (σ.set i (some V)) := by
  refine ⟨by simp [s.1], fun j u hj => ?_⟩
  by_cases e : i = j
  · subst e
    by_cases hl : i < η.length
    · rw [List.getElem?_set_self hl] at hj
      rw [List.getElem?_set_self (by rw [← s.1]; exact hl)]
      cases hj
      exact ⟨V, rfl, h⟩
    · rw [List.getElem?_eq_none (by simpa using hl)] at hj
      cases hj
  · rw [List.getElem?_set_ne e] at hj ⊢
    exact s.2 j u hj
theorem Slots.unset {η : Env} {σ : St} (s : Slots g ρ H η σ) (i : Nat) : Slots g ρ H (η.set i none) (σ.set i none) := by
  refine ⟨by simp [s.1], fun j u hj => ?_⟩
  by_cases e : i = j
  · subst e
    by_cases hl : i < η.length
    · rw [List.getElem?_set_self hl] at hj
      cases hj
    · rw [List.getElem?_eq_none (by simpa using hl)] at hj
      cases hj
  · rw [List.getElem?_set_ne e] at hj ⊢
    exact s.2 j u hj
theorem Slots.wipe {η : Env} {σ : St} (s : Slots g ρ H η σ) : ∀ vs : List Nat, Slots g ρ H (wipeE η vs) (wipe σ vs)
  | [] => s
  | v :: vs => (Slots.wipe s vs).unset v

def Post (g : Gd) (W : Value → Option Addr → Hp → Prop) (ρ : List Addr) (H : Hp) (r : Res α) (Q : α → List Addr → Store → Hp → Prop) : Prop := match r with
  | .ok v st' => ∀ ρ' H', Ext ρ H ρ' H' → Wd g ρ' st' H' → Q v ρ' st' H'
  | .ex e st' => ∀ ρ' H' cls d, Ext ρ H ρ' H' → Wd g ρ' st' H' → XR g ρ' H' e cls d → W cls d H'
  | .no => False
variable {W : Value → Option Addr → Hp → Prop}
theorem Post.mono {r : Res α} {Q : α → List Addr → Store → Hp → Prop} (h : Post g W ρ H r Q) (e : Ext ρ H ρ' H') : Post g W ρ' H' r Q := by
  cases r with
  | ok v st' => exact fun ρ2 H2 e2 w => h ρ2 H2 (e.trans e2) w
  | ex x st' => exact fun ρ2 H2 c d e2 w => h ρ2 H2 c d (e.trans e2) w
  | no => exact h
theorem Post.bind {r : Res α} {f : α → Store → Res β} {Q : β → List Addr → Store → Hp → Prop} (h : Post g W ρ H (r.bind f) Q) : Post g W ρ H r (fun v ρ' st' H' => Post g W ρ' H' (f v st') Q) := by
  cases r with
  | ok v st' => exact fun ρ2 H2 e2 w => Post.mono h e2
  | ex x st' => exact h
  | no => exact h
theorem Post.imp {r : Res α} {Q Q' : α → List Addr → Store → Hp → Prop} (h : Post g W ρ H r Q) (k : ∀ v ρ' st' H', Ext ρ H ρ' H' → Wd g ρ' st' H' → Q v ρ' st' H' → Q' v ρ' st' H') : Post g W ρ H r Q' := by
  cases r with
  | ok v st' => exact fun ρ2 H2 e2 w => k _ _ _ _ e2 w (h ρ2 H2 e2 w)
  | ex x st' => exact h
  | no => exact h
theorem Post.opt {o : Option α} {Q : α → List Addr → Store → Hp → Prop} (h : Post g W ρ H (opt o st) Q) : ∃ v, o = some v ∧ ∀ ρ' H', Ext ρ H ρ' H' → Wd g ρ' st H' → Q v ρ' st H' := by
  cases o with
  | none => exact (show False from h).elim
  | some v => exact ⟨v, rfl, h⟩

/-! readings -/
variable {σ : St}
def SE (g : Gd) (W : WX) (F : Env → Store → Res Val) : TE := fun σ H Q => ∃ ρ st η, Wd g ρ st H ∧ Slots g ρ H η σ ∧
  Post g (fun c d H' => W c d σ H') ρ H (F η st) fun v ρ' _ H' => ∀ V, Rel g ρ' H' v V → Q V H'
def SA (g : Gd) (W : WX) (F : Env → Store → Res (List Val)) : TA := fun σ H Q => ∃ ρ st η, Wd g ρ st H ∧ Slots g ρ H η σ ∧
  Post g (fun c d H' => W c d σ H') ρ H (F η st) fun v ρ' _ H' => ∀ V, Rels g ρ' H' v V → Q V H'
def STt (g : Gd) (W : WX) (F : Env → Store → Res Bool) : TT := fun σ H Q => ∃ ρ st η, Wd g ρ st H ∧ Slots g ρ H η σ ∧
  Post g (fun c d H' => W c d σ H') ρ H (F η st) fun b _ _ H' => Q b H'
def SO (g : Gd) (W : WX) (F : Env → Store → Res (Option Int)) : TO := fun σ H Q => ∃ ρ st η, Wd g ρ st H ∧ Slots g ρ H η σ ∧
  Post g (fun c d H' => W c d σ H') ρ H (F η st) fun b _ _ H' => Q b H'
/-- an iterator walks the items while the store says so -/
def Wk (g : Gd) (J : It) (n : Option Nat) (xs : List Val) (ρ : List Addr) (H : Hp) : Prop := ∀ ρ' st' H', Ext ρ H ρ' H' → Wd g ρ' st' H' → ckOf n xs st' = true →
  (∀ i x, xs[i]? = some x → J.go i H' ∧ ∀ V H2, J.yld i H' V H2 → H2 = H' ∧ Rel g ρ' H' x V) ∧ (∀ i, xs.length ≤ i → J.stop i H')
def SI (g : Gd) (W : WX) (F : Env → Store → Res (List Val × Option Nat)) : TI := fun σ H R => ∃ ρ st η, Wd g ρ st H ∧ Slots g ρ H η σ ∧
  Post g (fun c d H' => W c d σ H') ρ H (F η st) fun p ρ' st' H' => ckOf p.2 p.1 st' = true ∧ ∀ J, Wk g J p.2 p.1 ρ' H' → R J H'
end

/-- what is made may be locked at once -/
def Sh (Q : VK) : VK := fun v H => Q v H ∨ ∃ d u, H d = some u ∧ Mut (some u) ∧ ∀ od, Q v (upd H d (.frz od u))
theorem EP.sh {X : Cx} {pins : List (Addr × Obj)} {σ : St} {Q : VK} {u : Value} {s : Shared} (h : EP X pins σ (Sh Q) u s) : EP X pins σ Q u s := by
  obtain ⟨v, H', I, r, q⟩ := h
  rcases q with q | ⟨d, o, hd, mu, q⟩
  · exact ⟨v, H', I, r, q⟩
  · obtain ⟨od, I2⟩ := I.lock hd mu
    exact ⟨v, _, I2, r, q od⟩
theorem PE.sh {X : Cx} {e : Expr} {t : TE} (h : PE X e t) : PE X e (fun σ H Q => t σ H (Sh Q)) := ⟨fun pins s σ H Q I q => thn (h.run pins s σ H _ I q) fun _ _ h => EP.sh h⟩
theorem PE.imp {X : Cx} {e : Expr} {t t' : TE} (h : PE X e t) (k : ∀ σ H Q, t' σ H Q → t σ H Q) : PE X e t' := ⟨fun pins s σ H Q I q => h.run pins s σ H Q I (k _ _ _ q)⟩
theorem PT.imp {X : Cx} {e : Expr} {t t' : TT} (h : PT X e t) (k : ∀ σ H Q, t' σ H Q → t σ H Q) : PT X e t' := ⟨fun pins s σ H Q I q => h.run pins s σ H Q I (k _ _ _ q)⟩
theorem PW.imp {X : Cx} {e : Expr} {t t' : TT} (h : PW X e t) (k : ∀ σ H Q, t' σ H Q → t σ H Q) : PW X e t' := ⟨fun wh pins s σ H Q I q => h.run wh pins s σ H Q I (k _ _ _ q)⟩
theorem PA.imp {X : Cx} {e : List Expr} {t t' : TA} (h : PA X e t) (k : ∀ σ H Q, t' σ H Q → t σ H Q) : PA X e t' := ⟨fun pos pins s σ H Q I q => h.run pos pins s σ H Q I (k _ _ _ q)⟩
theorem PS.imp {X : Cx} {e : Stmt} {t t' : TS} (h : PS X e t) (k : ∀ D σ H, t' D σ H → t D σ H) : PS X e t' := ⟨fun pins s σ H Q I q => h.run pins s σ H Q I (k _ _ _ q)⟩
theorem PSs.imp {X : Cx} {e : List Stmt} {t t' : TS} (h : PSs X e t) (k : ∀ D σ H, t' D σ H → t D σ H) : PSs X e t' := ⟨fun pins s σ H Q I q => h.run pins s σ H Q I (k _ _ _ q)⟩
theorem PI.imp {X : Cx} {tg e : Expr} {t t' : TI} (h : PI X tg e t) (k : ∀ σ H Q, t' σ H Q → t σ H Q) : PI X tg e t' := ⟨fun pins s σ H Q I q => h.run pins s σ H Q I (k _ _ _ q)⟩

section
variable {X : Cx} {g : Gd} {W : WX} {a b : Expr} {Fa Fb : Env → Store → Res Val} {pos : Pos}
/-- one part -/
theorem se_un {F : Env → Store → Res Val} {G : Val → Env → Store → Res Val} (hF : ∀ η st, F η st = (Fa η st).bind fun x st => G x η st) {r : V → Hp → VK → Prop}
    (k : ∀ ρ st H σ η x V Q, Wd g ρ st H → Slots g ρ H η σ → Rel g ρ H x V → Post g (fun c d H' => W c d σ H') ρ H (G x η st) (fun v ρ' _ H' => ∀ V, Rel g ρ' H' v V → Q V H') → r V H Q) :
    ∀ σ H Q, SE g W F σ H Q → SE g W Fa σ H fun V H1 => r V H1 Q := by
  rintro σ H Q ⟨ρ, st, η, w, s, p⟩
  rw [hF] at p
  refine ⟨ρ, st, η, w, s, p.bind.imp fun v ρ1 st1 H1 e1 w1 q V rv => ?_⟩
  exact k ρ1 st1 H1 σ η v V Q w1 (s.ext e1) rv q
/-- two parts -/
theorem se_bin {F : Env → Store → Res Val} {G : Val → Val → Store → Res Val} (hF : ∀ η st, F η st = (Fa η st).bind fun x st => (Fb η st).bind fun y st => G x y st) {r : R2}
    (k : ∀ ρ st H σ x y V U Q, Wd g ρ st H → Rel g ρ H x V → Rel g ρ H y U → Post g (fun c d H' => W c d σ H') ρ H (G x y st) (fun v ρ' _ H' => ∀ V, Rel g ρ' H' v V → Q V H') → r V U H Q) :
    ∀ σ H Q, SE g W F σ H Q → tOp r (SE g W Fa) (SE g W Fb) σ H Q := by
  rintro σ H Q ⟨ρ, st, η, w, s, p⟩
  rw [hF] at p
  refine ⟨ρ, st, η, w, s, p.bind.imp fun v ρ1 st1 H1 e1 w1 q V rv => ?_⟩
  refine ⟨ρ1, st1, η, w1, s.ext e1, q.bind.imp fun u ρ2 st2 H2 e2 w2 q2 U ru => ?_⟩
  exact k ρ2 st2 H2 σ v u V U Q w2 (rv.ext e2) ru q2
/-- arguments, then something -/
theorem se_args {F : Env → Store → Res Val} {Fs : Env → Store → Res (List Val)} {G : List Val → Store → Res Val} (hF : ∀ η st, F η st = (Fs η st).bind fun xs st => G xs st) {r : St → List V → Hp → VK → Prop}
    (k : ∀ ρ st H σ xs vs Q, Wd g ρ st H → Rels g ρ H xs vs → Post g (fun c d H' => W c d σ H') ρ H (G xs st) (fun v ρ' _ H' => ∀ V, Rel g ρ' H' v V → Q V H') → r σ vs H Q) :
    ∀ σ H Q, SE g W F σ H Q → SA g W Fs σ H fun vs H1 => r σ vs H1 Q := by
  rintro σ H Q ⟨ρ, st, η, w, s, p⟩
  rw [hF] at p
  refine ⟨ρ, st, η, w, s, p.bind.imp fun v ρ1 st1 H1 e1 w1 q V rv => ?_⟩
  exact k ρ1 st1 H1 σ v V Q w1 rv q
end
end Mi
namespace Mi
open PySem L2 PySem.SeqAt

def Apart (g : Gd) (H : Hp) : Prop := ∀ a o, g.K.lookup a = some o → H a = none
theorem apart {X : Cx} {g : Gd} {pins : List (Addr × Obj)} {σ : St} {H : Hp} {s : Shared} (hK : X.K = g.K) (I : Inv X pins σ H s) : Apart g H := fun a o h =>
  (I.bs a o (I.mod.kin a o (by rw [hK]; exact h))).2

section
variable {g : Gd} {ρ : List Addr} {H : Hp} {st : Store}
theorem ktup_inj {K : PySem.W.Frag} {a : Addr} {xs ys : List V} (h : KTup K a xs) (k : KTup K a ys) : xs = ys := by
  obtain ⟨o, its, n, h1, h2, h3, h4, h5⟩ := h
  obtain ⟨o', its', n', k1, k2, k3, k4, k5⟩ := k
  rw [h1] at k1; cases k1
  rw [h3] at k3
  injection k3 with e _
  subst e
  exact h5.inj k5
theorem klst_inj {K : PySem.W.Frag} {a : Addr} {xs ys : List V} (h : KLst K a xs) (k : KLst K a ys) : xs = ys := by
  obtain ⟨o, its, n, h1, h2, h3, h4, h5, h6⟩ := h
  obtain ⟨o', its', n', k1, k2, k3, k4, k5, k6⟩ := k
  rw [h1] at k1; cases k1
  rw [h4] at k4
  injection k4 with e _
  subst e
  exact h6.inj k6
theorem ktup_klst {K : PySem.W.Frag} {a : Addr} {xs ys : List V} (h : KTup K a xs) (k : KLst K a ys) : False := by
  obtain ⟨o, its, n, h1, h2, _⟩ := h
  obtain ⟨o', its', n', k1, k2, _⟩ := k
  rw [h1] at k1; cases k1
  rw [h2] at k2; simp at k2
theorem ktup_none (ap : Apart g H) {a : Addr} {xs : List V} (h : KTup g.K a xs) : H a = none := by
  obtain ⟨o, its, n, h1, _⟩ := h
  exact ap _ _ h1
theorem klst_none (ap : Apart g H) {a : Addr} {xs : List V} (h : KLst g.K a xs) : H a = none := by
  obtain ⟨o, its, n, h1, _⟩ := h
  exact ap _ _ h1

/-! what values are seen as -/
theorem asL_sd (w : Wd g ρ st H) {x : Val} {v : V} {xs : List Val} (h : Rel g ρ H x v) (e : asL st x = some xs) : ∃ a vs, v = .ref a ∧ SqL g.K H a vs ∧ xs.length ≤ sizeLine ∧ Rels g ρ H xs vs := by
  cases x with
  | lst ys =>
    simp only [asL, Option.some.injEq] at e; subst e
    simp only [Rel] at h
    obtain ⟨a, vs, rfl, h1, h2, h3⟩ := h
    exact ⟨a, vs, rfl, sqL_of h1, h2, h3⟩
  | loc n =>
    simp only [asL] at e
    simp only [Rel] at h
    obtain ⟨a, rfl, h1⟩ := h
    cases q : st[n]? with
    | none => rw [q] at e; cases e
    | some o =>
      rw [q] at e
      cases o with
      | lst ys =>
        simp only [Option.some.injEq] at e; subst e
        obtain ⟨vs, h2, h3, h4⟩ := w.ob n _ a q h1
        exact ⟨a, vs, rfl, .inl (.inl h2), h3, h4⟩
      | _ => cases e
  | _ => simp [asL] at e
theorem tup_sd {x : List Val} {v : V} (h : Rel g ρ H (.tup x) v) : ∃ a vs, v = .ref a ∧ SqT g.K H a vs ∧ x.length ≤ sizeLine ∧ Rels g ρ H x vs := by
  simp only [Rel] at h
  obtain ⟨a, vs, rfl, h1, h2, h3⟩ := h
  exact ⟨a, vs, rfl, sqT_of h1, h2, h3⟩
theorem asS_sd (w : Wd g ρ st H) {x : Val} {v : V} {xs : List Val} (h : Rel g ρ H x v) (e : asS st x = some xs) : ∃ a vs, v = .ref a ∧ (SqL g.K H a vs ∨ SqT g.K H a vs) ∧ xs.length ≤ sizeLine ∧ Rels g ρ H xs vs := by
  by_cases ht : ∃ ys, x = .tup ys
  · obtain ⟨ys, rfl⟩ := ht
    simp only [asS, Option.some.injEq] at e; subst e
    obtain ⟨a, vs, rfl, h1, h2, h3⟩ := tup_sd h
    exact ⟨a, vs, rfl, .inr h1, h2, h3⟩
  · have e' : asL st x = some xs := by
      cases x <;> first | exact e | exact absurd ⟨_, rfl⟩ ht
    obtain ⟨a, vs, rfl, h1, h2, h3⟩ := asL_sd w h e'
    exact ⟨a, vs, rfl, .inl h1, h2, h3⟩
theorem asD_sd (w : Wd g ρ st H) {x : Val} {v : V} {p : List Txt × List Val} (h : Rel g ρ H x v) (e : asD st x = some p) : ∃ a kvs, v = .ref a ∧ Rd H a (.dK kvs) ∧ p.2.length ≤ sizeLine ∧ (kvs.map (·.1) = p.1.map tk ∧ KsOk p.1) ∧ Rels g ρ H p.2 (kvs.map (·.2)) := by
  cases x with
  | dct ks ys =>
    simp only [asD, Option.some.injEq] at e; subst e
    simp only [Rel] at h
    obtain ⟨a, vs, rfl, h1, h2, h3, h4⟩ := h
    exact ⟨a, vs, rfl, .inr h1, h2, h3, h4⟩
  | loc n =>
    simp only [asD] at e
    simp only [Rel] at h
    obtain ⟨a, rfl, h1⟩ := h
    cases q : st[n]? with
    | none => rw [q] at e; cases e
    | some o =>
      rw [q] at e
      cases o with
      | dct ks ys =>
        simp only [Option.some.injEq] at e; subst e
        obtain ⟨vs, h2, h3, h4, h5⟩ := w.ob n _ a q h1
        exact ⟨a, vs, rfl, .inl h2, h3, h4, h5⟩
      | _ => cases e
  | _ => simp [asD] at e
theorem key_sd {x : Val} {v : V} {k : Txt} (h : Rel g ρ H x v) (e : keyOf x = some k) : v = kV (tk k) ∧ k.length ≤ sizeLine := by
  cases x <;> simp only [keyOf, reduceCtorEq, Option.some.injEq] at e
  subst e; simp only [Rel] at h; exact ⟨h.1, h.2⟩
theorem look_sd {k : Txt} : ∀ {ks : List Txt} {xs : List Val} {x : Val} {kvs : List (Key × V)}, look k ks xs = some x → kvs.map (·.1) = ks.map tk → Rels g ρ H xs (kvs.map (·.2)) → ∃ v, valV kvs (tk k) = some v ∧ Rel g ρ H x v
  | [], xs, x, kvs, h, _, _ => by simp [look] at h
  | k' :: ks, [], x, kvs, h, _, _ => by simp [look] at h
  | k' :: ks, y :: xs, x, kvs, h, e, r => by
    cases kvs with
    | nil => cases e
    | cons p kvs =>
      simp only [List.map_cons, List.cons.injEq] at e
      obtain ⟨v, u, e2, r1, r2⟩ := r.cons_inv
      simp only [List.map_cons, List.cons.injEq] at e2
      obtain ⟨e3, e4⟩ := e2
      simp only [look] at h
      split at h
      · rename_i hk
        cases h
        exact ⟨p.2, valV_pos (by rw [e.1, hk]), by rw [e3]; exact r1⟩
      · rename_i hk
        rw [valV_neg (fun z => hk (tk_inj (e.1.symm.trans z)))]
        exact look_sd h e.2 (by rw [e4]; exact r2)
theorem look_none {k : Txt} : ∀ {ks : List Txt} {xs : List Val} {kvs : List (Key × V)}, look k ks xs = none → kvs.map (·.1) = ks.map tk → Rels g ρ H xs (kvs.map (·.2)) → valV kvs (tk k) = none
  | [], xs, kvs, _, e, _ => by
    cases kvs with
    | nil => rfl
    | cons p r => cases e
  | k' :: ks, [], kvs, h, e, r => by
    cases kvs with
    | nil => cases e
    | cons p kvs => simp only [Rels, List.map_cons] at r; cases r
  | k' :: ks, y :: xs, kvs, h, e, r => by
    cases kvs with
    | nil => cases e
    | cons p kvs =>
      simp only [List.map_cons, List.cons.injEq] at e
      obtain ⟨v, u, e2, r1, r2⟩ := r.cons_inv
      simp only [List.map_cons, List.cons.injEq] at e2
      simp only [look] at h
      split at h
      · cases h
      · rename_i hk
        rw [valV_neg (fun z => hk (tk_inj (e.1.symm.trans z)))]
        exact look_none h e.2 (by rw [e2.2]; exact r2)
theorem any_keys {kvs : List (Key × V)} {ks : List Txt} {k : Txt} (e : kvs.map (·.1) = ks.map tk) : (kvs.any fun kv => decide (kv.1 = tk k)) = decide (k ∈ ks) := by
  have h1 : (kvs.any fun kv => decide (kv.1 = tk k)) = (kvs.map (·.1)).any fun k' => decide (k' = tk k) := by rw [List.any_map]; rfl
  rw [h1, e]
  induction ks generalizing kvs with
  | nil => simp
  | cons a ks ih =>
    cases kvs with
    | nil => cases e
    | cons p kvs =>
      simp only [List.map_cons, List.cons.injEq] at e
      simp only [List.map_cons, List.any_cons, List.mem_cons]
      rw [ih (kvs := kvs) e.2 (by rw [List.any_map]; rfl)]
      by_cases h : k = a
      · subst h; simp
      · have : tk a ≠ tk k := fun z => h (tk_inj z).symm
        simp [h, this]
theorem setA_sd {k : Txt} {x : Val} {v : V} (hx : Rel g ρ H x v) : ∀ {ks : List Txt} {xs : List Val} {kvs : List (Key × V)}, kvs.map (·.1) = ks.map tk → Rels g ρ H xs (kvs.map (·.2)) →
    Rels g ρ H (setA k x ks xs) ((kvs.map fun kv => if kv.1 = tk k then (kv.1, v) else kv).map (·.2))
  | [], xs, kvs, e, r => by
    cases kvs with
    | nil => simp only [setA]; exact r
    | cons p q => cases e
  | k' :: ks, [], kvs, e, r => by
    cases kvs with
    | nil => cases e
    | cons p q => simp only [Rels, List.map_cons] at r; cases r
  | k' :: ks, y :: xs, kvs, e, r => by
    cases kvs with
    | nil => cases e
    | cons p q =>
      simp only [List.map_cons, List.cons.injEq] at e
      obtain ⟨u, t, e2, r1, r2⟩ := r.cons_inv
      simp only [List.map_cons, List.cons.injEq] at e2
      simp only [setA, List.map_cons]
      refine .cons ?_ (setA_sd hx e.2 (by rw [e2.2]; exact r2))
      by_cases h : p.1 = tk k
      · rw [if_pos h, if_pos (tk_inj (e.1.symm.trans h))]; exact hx
      · rw [if_neg h, if_neg (fun z => h (by rw [e.1, z])), e2.1]; exact r1
theorem put_sd {k : Txt} {x : Val} {v : V} {ks : List Txt} {xs : List Val} {kvs : List (Key × V)} (hx : Rel g ρ H x v) (e : kvs.map (·.1) = ks.map tk) (r : Rels g ρ H xs (kvs.map (·.2))) :
    (putK kvs (tk k) v).map (·.1) = (putD k x ks xs).1.map tk ∧ Rels g ρ H (putD k x ks xs).2 ((putK kvs (tk k) v).map (·.2)) := by
  unfold putK putD
  rw [any_keys e]
  by_cases h : k ∈ ks
  · rw [if_pos (decide_eq_true h), if_pos h]
    refine ⟨?_, setA_sd hx e r⟩
    rw [← e, List.map_map]
    refine List.map_congr_left fun p _ => ?_
    show (if p.1 = tk k then (p.1, v) else p).1 = p.1
    split <;> rfl
  · rw [if_neg (by simpa using h), if_neg h]
    refine ⟨by rw [List.map_append, List.map_append, e]; rfl, ?_⟩
    rw [List.map_append]
    exact r.append (.cons hx .nil)
theorem putD_ks {k : Txt} {x : Val} {ks : List Txt} {xs : List Val} (h : KsOk ks) (hk : k.length ≤ sizeLine) : KsOk (putD k x ks xs).1 := by
  unfold putD
  split
  · exact h
  · intro z hz
    rcases List.mem_append.mp hz with hz | hz
    · exact h z hz
    · have : z = k := by simpa using hz
      rw [this]; exact hk
theorem setA_len (k : Txt) (x : Val) : ∀ (ks : List Txt) (xs : List Val), (setA k x ks xs).length = xs.length
  | [], xs => rfl
  | a :: ks, [] => rfl
  | a :: ks, b :: xs => by simp [setA, setA_len k x ks xs]
theorem putD_len (k : Txt) (x : Val) (ks : List Txt) (xs : List Val) : (putD k x ks xs).2.length ≤ xs.length + 1 := by
  unfold putD
  split
  · show (setA k x ks xs).length ≤ _
    rw [setA_len]; omega
  · simp

/-! new things -/
theorem newL (w : Wd g ρ st H) {xs : List Val} {vs : List V} (h : Rels g ρ H xs vs) (hl : xs.length ≤ sizeLine) {p : Addr} (hp : H p = none) (od : Obj) : Rel g ρ (upd H p (.frz od (.lst vs))) (.lst xs) (.ref p) := by
  simp only [Rel]
  exact ⟨p, vs, rfl, .inl ⟨od, upd_same⟩, hl, h.ext (Ext.new hp)⟩
theorem newT (w : Wd g ρ st H) {xs : List Val} {vs : List V} (h : Rels g ρ H xs vs) (hl : xs.length ≤ sizeLine) {p : Addr} (hp : H p = none) : Rel g ρ (upd H p (.tup vs)) (.tup xs) (.ref p) := by
  simp only [Rel]
  exact ⟨p, vs, rfl, .inl upd_same, hl, h.ext (Ext.new hp)⟩
theorem newD (w : Wd g ρ st H) {ks : List Txt} {xs : List Val} {kvs : List (Key × V)} (e : kvs.map (·.1) = ks.map tk ∧ KsOk ks) (h : Rels g ρ H xs (kvs.map (·.2))) (hl : xs.length ≤ sizeLine) {p : Addr} (hp : H p = none) (od : Obj) : Rel g ρ (upd H p (.frz od (.dK kvs))) (.dct ks xs) (.ref p) := by
  simp only [Rel]
  exact ⟨p, kvs, rfl, ⟨od, upd_same⟩, hl, e, h.ext (Ext.new hp)⟩
theorem rel_int {i : Int} : Rel g ρ H (.int i) (.int i) := by simp only [Rel]
theorem rel_bl {i : Bool} : Rel g ρ H (.bl i) (.bl i) := by simp only [Rel]
theorem rel_non : Rel g ρ H .non .non := by simp only [Rel]
theorem rel_str {x : Txt} (h : x.length ≤ sizeLine) : Rel g ρ H (.str x) (.str (tx x)) := by simp only [Rel]; exact ⟨trivial, h⟩
/-- a new list, locked: for Sh -/
theorem shL {Q : VK} (w : Wd g ρ st H) {xs : List Val} {vs : List V} (h : Rels g ρ H xs vs) (hl : xs.length ≤ sizeLine)
    (q : ∀ ρ' H', Ext ρ H ρ' H' → Wd g ρ' st H' → ∀ V, Rel g ρ' H' (.lst xs) V → Q V H') {p : Addr} (hp : H p = none) : Sh Q (.ref p) (upd H p (.lst vs)) :=
  .inr ⟨p, .lst vs, upd_same, trivial, fun od => by
    rw [upd_upd]
    exact q ρ _ (Ext.new hp) (w.new hp) _ (newL w h hl hp od)⟩
theorem shD {Q : VK} (w : Wd g ρ st H) {ks : List Txt} {xs : List Val} {kvs : List (Key × V)} (e : kvs.map (·.1) = ks.map tk ∧ KsOk ks) (h : Rels g ρ H xs (kvs.map (·.2))) (hl : xs.length ≤ sizeLine)
    (q : ∀ ρ' H', Ext ρ H ρ' H' → Wd g ρ' st H' → ∀ V, Rel g ρ' H' (.dct ks xs) V → Q V H') {p : Addr} (hp : H p = none) : Sh Q (.ref p) (upd H p (.dK kvs)) :=
  .inr ⟨p, .dK kvs, upd_same, trivial, fun od => by
    rw [upd_upd]
    exact q ρ _ (Ext.new hp) (w.new hp) _ (newD w e h hl hp od)⟩
end
end Mi
namespace Mi
open PySem L2 PySem.SeqAt PySem.W PyProof.Rows PySem.Spec PySem.Calls
/-- a dict lies there -/
def DictAt (h : Heap) (l : Addr) : Prop := ∃ es ep, h.get? l = some { cls := .type "dict", dict := none, data := .dict es ep, slots := #[] }
abbrev dO (es : Array DictEntry) (ep : Nat) : Obj := { cls := .type "dict", dict := none, data := .dict es ep, slots := #[] }

theorem dict_no_none (l : Addr) (es : Array DictEntry) (ep : Nat)  : Meets (Builtin.«dict.__eq__» ⟨[.ref l, .none], []⟩) (fun _ R s => s.heap.get? l = some (dO es ep) ∧ R (.ok (.ret .notImplemented)) s) :=
  .of_wp fun prog w A R s h => by obtain ⟨hp, g, d, tk, os⟩ := s; obtain ⟨hl, h⟩ := h; have f1 := F.sub_NoneType_dict; wp_walk using wpAny_loadPart' hl, wpAny_load hl; exact ⟨_, rfl, h⟩
theorem dict_no_bool (l : Addr) (es : Array DictEntry) (ep : Nat) (b : Bool) : Meets (Builtin.«dict.__eq__» ⟨[.ref l, .bool b], []⟩) (fun _ R s => s.heap.get? l = some (dO es ep) ∧ R (.ok (.ret .notImplemented)) s) :=
  .of_wp fun prog w A R s h => by obtain ⟨hp, g, d, tk, os⟩ := s; obtain ⟨hl, h⟩ := h; have f1 := F.sub_bool_dict; wp_walk using wpAny_loadPart' hl, wpAny_load hl; exact ⟨_, rfl, h⟩
theorem bool_no_dict (l : Addr) (es : Array DictEntry) (ep : Nat) (b : Bool) : Meets (Builtin.«int.__eq__» ⟨[.bool b, .ref l], []⟩) (fun _ R s => s.heap.get? l = some (dO es ep) ∧ R (.ok (.ret .notImplemented)) s) :=
  .of_wp fun prog w A R s h => by obtain ⟨hp, g, d, tk, os⟩ := s; obtain ⟨hl, h⟩ := h; wp_walk using wpAny_loadPart' hl, wpAny_load hl; exact ⟨_, rfl, h⟩
theorem dict_no_int (l : Addr) (es : Array DictEntry) (ep : Nat) (b : Int) (u : Tok) : Meets (Builtin.«dict.__eq__» ⟨[.ref l, .int b u], []⟩) (fun _ R s => s.heap.get? l = some (dO es ep) ∧ R (.ok (.ret .notImplemented)) s) :=
  .of_wp fun prog w A R s h => by obtain ⟨hp, g, d, tk, os⟩ := s; obtain ⟨hl, h⟩ := h; have f1 := F.sub_int_dict; wp_walk using wpAny_loadPart' hl, wpAny_load hl; exact ⟨_, rfl, h⟩
theorem int_no_dict (l : Addr) (es : Array DictEntry) (ep : Nat) (b : Int) (u : Tok) : Meets (Builtin.«int.__eq__» ⟨[.int b u, .ref l], []⟩) (fun _ R s => s.heap.get? l = some (dO es ep) ∧ R (.ok (.ret .notImplemented)) s) :=
  .of_wp fun prog w A R s h => by obtain ⟨hp, g, d, tk, os⟩ := s; obtain ⟨hl, h⟩ := h; wp_walk using wpAny_loadPart' hl, wpAny_load hl; exact ⟨_, rfl, h⟩
theorem dict_no_str (l : Addr) (es : Array DictEntry) (ep : Nat) (b : Str) (u : Tok) : Meets (Builtin.«dict.__eq__» ⟨[.ref l, .str b u], []⟩) (fun _ R s => s.heap.get? l = some (dO es ep) ∧ R (.ok (.ret .notImplemented)) s) :=
  .of_wp fun prog w A R s h => by obtain ⟨hp, g, d, tk, os⟩ := s; obtain ⟨hl, h⟩ := h; have f1 := F.sub_str_dict; wp_walk using wpAny_loadPart' hl, wpAny_load hl; exact ⟨_, rfl, h⟩
theorem str_no_dict (l : Addr) (es : Array DictEntry) (ep : Nat) (b : Str) (u : Tok) : Meets (Builtin.«str.__eq__» ⟨[.str b u, .ref l], []⟩) (fun _ R s => s.heap.get? l = some (dO es ep) ∧ R (.ok (.ret .notImplemented)) s) :=
  .of_wp fun prog w A R s h => by obtain ⟨hp, g, d, tk, os⟩ := s; obtain ⟨hl, h⟩ := h; wp_walk using wpAny_loadPart' hl, wpAny_load hl; exact ⟨_, rfl, h⟩
theorem dict_no_list (l b : Addr) (es : Array DictEntry) (ep : Nat) (items : Array Value) (n : Nat) (dd : Option Addr) (sl : Array (Option Value)) : Meets (Builtin.«dict.__eq__» ⟨[.ref l, .ref b], []⟩) (fun _ R s => s.heap.get? l = some (dO es ep) ∧ s.heap.get? b = some { cls := .type "list", dict := dd, data := .seq items n, slots := sl } ∧ R (.ok (.ret .notImplemented)) s) :=
  .of_wp fun prog w A R s h => by obtain ⟨hp, g, d, tk, os⟩ := s; obtain ⟨hl, hb, h⟩ := h; have f1 := F.sub_list_dict; wp_walk using wpAny_loadPart' hl, wpAny_load hl, wpAny_loadPart' hb, wpAny_load hb; exact ⟨_, rfl, h⟩
theorem list_no_dict (l b : Addr) (es : Array DictEntry) (ep : Nat) (items : Array Value) (n : Nat) (dd : Option Addr) (sl : Array (Option Value)) : Meets (Builtin.«list.__eq__» ⟨[.ref b, .ref l], []⟩) (fun _ R s => s.heap.get? l = some (dO es ep) ∧ s.heap.get? b = some { cls := .type "list", dict := dd, data := .seq items n, slots := sl } ∧ R (.ok (.ret .notImplemented)) s) :=
  .of_wp fun prog w A R s h => by obtain ⟨hp, g, d, tk, os⟩ := s; obtain ⟨hl, hb, h⟩ := h; have f1 := F.sub_dict_list; wp_walk using wpAny_loadPart' hl, wpAny_load hl, wpAny_loadPart' hb, wpAny_load hb; exact ⟨_, rfl, h⟩
theorem dict_no_tuple (l b : Addr) (es : Array DictEntry) (ep : Nat) (items : Array Value) (n : Nat) (dd : Option Addr) (sl : Array (Option Value)) : Meets (Builtin.«dict.__eq__» ⟨[.ref l, .ref b], []⟩) (fun _ R s => s.heap.get? l = some (dO es ep) ∧ s.heap.get? b = some { cls := .type "tuple", dict := dd, data := .seq items n, slots := sl } ∧ R (.ok (.ret .notImplemented)) s) :=
  .of_wp fun prog w A R s h => by obtain ⟨hp, g, d, tk, os⟩ := s; obtain ⟨hl, hb, h⟩ := h; have f1 := F.sub_tuple_dict; wp_walk using wpAny_loadPart' hl, wpAny_load hl, wpAny_loadPart' hb, wpAny_load hb; exact ⟨_, rfl, h⟩
theorem tuple_no_dict (l b : Addr) (es : Array DictEntry) (ep : Nat) (items : Array Value) (n : Nat) (dd : Option Addr) (sl : Array (Option Value)) : Meets (Builtin.«tuple.__eq__» ⟨[.ref b, .ref l], []⟩) (fun _ R s => s.heap.get? l = some (dO es ep) ∧ s.heap.get? b = some { cls := .type "tuple", dict := dd, data := .seq items n, slots := sl } ∧ R (.ok (.ret .notImplemented)) s) :=
  .of_wp fun prog w A R s h => by obtain ⟨hp, g, d, tk, os⟩ := s; obtain ⟨hl, hb, h⟩ := h; have f1 := F.sub_dict_tuple; wp_walk using wpAny_loadPart' hl, wpAny_load hl, wpAny_loadPart' hb, wpAny_load hb; exact ⟨_, rfl, h⟩
section
variable {A : Around} {s : Shared}
theorem rc_dict_none {l : Addr}  (hl : DictAt s.heap l) (hu : A.units < cLine) : RcAt A s (.ref l) (.none) false := fun prog w E Q h => by
  obtain ⟨es, ep, ho⟩ := hl
  exact rc_eq_decline_or (k := false) ⟨_, ho, rfl⟩ rfl (by decide) F.sub_NoneType_dict F.slot_dict_eq F.slot_NoneType_eq_refl
    (fun _ hq => call_meets F.slot_dict_eq ⟨_, ho, rfl⟩ F.entry_dict_eq (F.args_dict_eq_2 _ _) (dict_no_none l es ep ) ⟨ho, hq⟩)
    (fun _ hq => call_gives F.slot_NoneType_eq_refl rfl F.entry_NoneType_eq (F.args_NoneType_eq_2 _ _) (NoneType___eq___none_ref_0 l) hq)
    (fun _ hq => wpAny_of_eq (rfl : isSame (.ref l) (.none) = pure false) hq) (.inr hu) h
theorem rc_none_dict {l : Addr}  (hl : DictAt s.heap l) (hu : A.units < cLine) : RcAt A s (.none) (.ref l) false := fun prog w E Q h => by
  obtain ⟨es, ep, ho⟩ := hl
  exact rc_eq_decline_or (k := false) rfl ⟨_, ho, rfl⟩ (by decide) F.sub_dict_NoneType F.slot_NoneType_eq F.slot_dict_eq_refl
    (fun _ hq => call_gives F.slot_NoneType_eq rfl F.entry_NoneType_eq (F.args_NoneType_eq_2 _ _) (NoneType___eq___none_ref_0 l) hq)
    (fun _ hq => call_meets F.slot_dict_eq_refl ⟨_, ho, rfl⟩ F.entry_dict_eq (F.args_dict_eq_2 _ _) (dict_no_none l es ep ) ⟨ho, hq⟩)
    (fun _ hq => wpAny_of_eq (rfl : isSame (.none) (.ref l) = pure false) hq) (.inr hu) h
theorem eq_dict_none {l : Addr}  (hl : DictAt s.heap l) (hu : A.units < cLine) : EqAt A s (.ref l) (.none) false := fun prog w E Q h => by
  unfold eqBool
  refine wpAny_holding ?_
  refine wpAny_ite_split (fun hab => absurd (eq_of_beq hab) nofun) (fun _ => ?_)
  exact wpAny_bind (rc_dict_none  hl hu prog w E _ (wpAny_truthy_bool h))
theorem eq_none_dict {l : Addr}  (hl : DictAt s.heap l) (hu : A.units < cLine) : EqAt A s (.none) (.ref l) false := fun prog w E Q h => by
  unfold eqBool
  refine wpAny_holding ?_
  refine wpAny_ite_split (fun hab => absurd (eq_of_beq hab) nofun) (fun _ => ?_)
  exact wpAny_bind (rc_none_dict  hl hu prog w E _ (wpAny_truthy_bool h))
theorem rc_dict_bool {l : Addr} (b : Bool) (hl : DictAt s.heap l) (hu : A.units < cLine) : RcAt A s (.ref l) (.bool b) false := fun prog w E Q h => by
  obtain ⟨es, ep, ho⟩ := hl
  exact rc_eq_decline_or (k := false) ⟨_, ho, rfl⟩ rfl (by decide) F.sub_bool_dict F.slot_dict_eq F.slot_bool_eq_refl
    (fun _ hq => call_meets F.slot_dict_eq ⟨_, ho, rfl⟩ F.entry_dict_eq (F.args_dict_eq_2 _ _) (dict_no_bool l es ep b) ⟨ho, hq⟩)
    (fun _ hq => call_meets F.slot_bool_eq_refl rfl F.entry_int_eq (F.args_int_eq_2 _ _) (bool_no_dict l es ep b) ⟨ho, hq⟩)
    (fun _ hq => wpAny_of_eq (rfl : isSame (.ref l) (.bool b) = pure false) hq) (.inr hu) h
theorem rc_bool_dict {l : Addr} (b : Bool) (hl : DictAt s.heap l) (hu : A.units < cLine) : RcAt A s (.bool b) (.ref l) false := fun prog w E Q h => by
  obtain ⟨es, ep, ho⟩ := hl
  exact rc_eq_decline_or (k := false) rfl ⟨_, ho, rfl⟩ (by decide) F.sub_dict_bool F.slot_bool_eq F.slot_dict_eq_refl
    (fun _ hq => call_meets F.slot_bool_eq rfl F.entry_int_eq (F.args_int_eq_2 _ _) (bool_no_dict l es ep b) ⟨ho, hq⟩)
    (fun _ hq => call_meets F.slot_dict_eq_refl ⟨_, ho, rfl⟩ F.entry_dict_eq (F.args_dict_eq_2 _ _) (dict_no_bool l es ep b) ⟨ho, hq⟩)
    (fun _ hq => wpAny_of_eq (rfl : isSame (.bool b) (.ref l) = pure false) hq) (.inr hu) h
theorem eq_dict_bool {l : Addr} (b : Bool) (hl : DictAt s.heap l) (hu : A.units < cLine) : EqAt A s (.ref l) (.bool b) false := fun prog w E Q h => by
  unfold eqBool
  refine wpAny_holding ?_
  refine wpAny_ite_split (fun hab => absurd (eq_of_beq hab) nofun) (fun _ => ?_)
  exact wpAny_bind (rc_dict_bool b hl hu prog w E _ (wpAny_truthy_bool h))
theorem eq_bool_dict {l : Addr} (b : Bool) (hl : DictAt s.heap l) (hu : A.units < cLine) : EqAt A s (.bool b) (.ref l) false := fun prog w E Q h => by
  unfold eqBool
  refine wpAny_holding ?_
  refine wpAny_ite_split (fun hab => absurd (eq_of_beq hab) nofun) (fun _ => ?_)
  exact wpAny_bind (rc_bool_dict b hl hu prog w E _ (wpAny_truthy_bool h))
theorem rc_dict_int {l : Addr} (b : Int) (u : Tok) (hl : DictAt s.heap l) (hu : A.units < cLine) : RcAt A s (.ref l) (.int b u) false := fun prog w E Q h => by
  obtain ⟨es, ep, ho⟩ := hl
  exact rc_eq_decline_or (k := false) ⟨_, ho, rfl⟩ (typeIs_int s b u) (by decide) F.sub_int_dict F.slot_dict_eq F.slot_int_eq_refl
    (fun _ hq => call_meets F.slot_dict_eq ⟨_, ho, rfl⟩ F.entry_dict_eq (F.args_dict_eq_2 _ _) (dict_no_int l es ep b u) ⟨ho, hq⟩)
    (fun _ hq => call_meets F.slot_int_eq_refl (typeIs_int s b u) F.entry_int_eq (F.args_int_eq_2 _ _) (int_no_dict l es ep b u) ⟨ho, hq⟩)
    (fun _ hq => wpAny_of_eq (rfl : isSame (.ref l) (.int b u) = pure false) hq) (.inr hu) h
theorem rc_int_dict {l : Addr} (b : Int) (u : Tok) (hl : DictAt s.heap l) (hu : A.units < cLine) : RcAt A s (.int b u) (.ref l) false := fun prog w E Q h => by
  obtain ⟨es, ep, ho⟩ := hl
  exact rc_eq_decline_or (k := false) (typeIs_int s b u) ⟨_, ho, rfl⟩ (by decide) F.sub_dict_int F.slot_int_eq F.slot_dict_eq_refl
    (fun _ hq => call_meets F.slot_int_eq (typeIs_int s b u) F.entry_int_eq (F.args_int_eq_2 _ _) (int_no_dict l es ep b u) ⟨ho, hq⟩)
    (fun _ hq => call_meets F.slot_dict_eq_refl ⟨_, ho, rfl⟩ F.entry_dict_eq (F.args_dict_eq_2 _ _) (dict_no_int l es ep b u) ⟨ho, hq⟩)
    (fun _ hq => wpAny_of_eq (rfl : isSame (.int b u) (.ref l) = pure false) hq) (.inr hu) h
theorem eq_dict_int {l : Addr} (b : Int) (u : Tok) (hl : DictAt s.heap l) (hu : A.units < cLine) : EqAt A s (.ref l) (.int b u) false := fun prog w E Q h => by
  unfold eqBool
  refine wpAny_holding ?_
  refine wpAny_ite_split (fun hab => absurd (eq_of_beq hab) nofun) (fun _ => ?_)
  exact wpAny_bind (rc_dict_int b u hl hu prog w E _ (wpAny_truthy_bool h))
theorem eq_int_dict {l : Addr} (b : Int) (u : Tok) (hl : DictAt s.heap l) (hu : A.units < cLine) : EqAt A s (.int b u) (.ref l) false := fun prog w E Q h => by
  unfold eqBool
  refine wpAny_holding ?_
  refine wpAny_ite_split (fun hab => absurd (eq_of_beq hab) nofun) (fun _ => ?_)
  exact wpAny_bind (rc_int_dict b u hl hu prog w E _ (wpAny_truthy_bool h))
theorem rc_dict_str {l : Addr} (b : Str) (u : Tok) (hl : DictAt s.heap l) (hu : A.units < cLine) : RcAt A s (.ref l) (.str b u) false := fun prog w E Q h => by
  obtain ⟨es, ep, ho⟩ := hl
  exact rc_eq_decline_or (k := false) ⟨_, ho, rfl⟩ (typeIs_str s b u) (by decide) F.sub_str_dict F.slot_dict_eq F.slot_str_eq_refl
    (fun _ hq => call_meets F.slot_dict_eq ⟨_, ho, rfl⟩ F.entry_dict_eq (F.args_dict_eq_2 _ _) (dict_no_str l es ep b u) ⟨ho, hq⟩)
    (fun _ hq => call_meets F.slot_str_eq_refl (typeIs_str s b u) F.entry_str_eq (F.args_str_eq_2 _ _) (str_no_dict l es ep b u) ⟨ho, hq⟩)
    (fun _ hq => wpAny_of_eq (rfl : isSame (.ref l) (.str b u) = pure false) hq) (.inr hu) h
theorem rc_str_dict {l : Addr} (b : Str) (u : Tok) (hl : DictAt s.heap l) (hu : A.units < cLine) : RcAt A s (.str b u) (.ref l) false := fun prog w E Q h => by
  obtain ⟨es, ep, ho⟩ := hl
  exact rc_eq_decline_or (k := false) (typeIs_str s b u) ⟨_, ho, rfl⟩ (by decide) F.sub_dict_str F.slot_str_eq F.slot_dict_eq_refl
    (fun _ hq => call_meets F.slot_str_eq (typeIs_str s b u) F.entry_str_eq (F.args_str_eq_2 _ _) (str_no_dict l es ep b u) ⟨ho, hq⟩)
    (fun _ hq => call_meets F.slot_dict_eq_refl ⟨_, ho, rfl⟩ F.entry_dict_eq (F.args_dict_eq_2 _ _) (dict_no_str l es ep b u) ⟨ho, hq⟩)
    (fun _ hq => wpAny_of_eq (rfl : isSame (.str b u) (.ref l) = pure false) hq) (.inr hu) h
theorem eq_dict_str {l : Addr} (b : Str) (u : Tok) (hl : DictAt s.heap l) (hu : A.units < cLine) : EqAt A s (.ref l) (.str b u) false := fun prog w E Q h => by
  unfold eqBool
  refine wpAny_holding ?_
  refine wpAny_ite_split (fun hab => absurd (eq_of_beq hab) nofun) (fun _ => ?_)
  exact wpAny_bind (rc_dict_str b u hl hu prog w E _ (wpAny_truthy_bool h))
theorem eq_str_dict {l : Addr} (b : Str) (u : Tok) (hl : DictAt s.heap l) (hu : A.units < cLine) : EqAt A s (.str b u) (.ref l) false := fun prog w E Q h => by
  unfold eqBool
  refine wpAny_holding ?_
  refine wpAny_ite_split (fun hab => absurd (eq_of_beq hab) nofun) (fun _ => ?_)
  exact wpAny_bind (rc_str_dict b u hl hu prog w E _ (wpAny_truthy_bool h))
theorem rc_dict_list {l b : Addr} {items : Array Value} (hl : DictAt s.heap l) (hb : s.heap.IsList b items) (hu : A.units < cLine) : RcAt A s (.ref l) (.ref b) false := fun prog w E Q h => by
  obtain ⟨es, ep, ho⟩ := hl
  obtain ⟨⟨cls2, dd2, data2, sl2⟩, ho2, hc2, n2, hd2⟩ := id hb
  simp only at hc2 hd2
  subst hc2 hd2
  have hne : l ≠ b := fun e => by subst e; rw [ho] at ho2; exact absurd (congrArg Obj.cls (Option.some.inj ho2)) (by simp)
  exact rc_eq_decline_or (k := false) ⟨_, ho, rfl⟩ ⟨_, ho2, rfl⟩ (by decide) F.sub_list_dict F.slot_dict_eq F.slot_list_eq_refl
    (fun _ hq => call_meets F.slot_dict_eq ⟨_, ho, rfl⟩ F.entry_dict_eq (F.args_dict_eq_2 _ _) (dict_no_list l b es ep items n2 dd2 sl2) ⟨ho, ho2, hq⟩)
    (fun _ hq => call_meets F.slot_list_eq_refl ⟨_, ho2, rfl⟩ F.entry_list_eq (F.args_list_eq_2 _ _) (list_no_dict l b es ep items n2 dd2 sl2) ⟨ho, ho2, hq⟩)
    (fun _ hq => wpAny_isSame_ref_other hne ho ho2 (by simp) hq) (.inr hu) h
theorem rc_list_dict {l b : Addr} {items : Array Value} (hl : DictAt s.heap l) (hb : s.heap.IsList b items) (hu : A.units < cLine) : RcAt A s (.ref b) (.ref l) false := fun prog w E Q h => by
  obtain ⟨es, ep, ho⟩ := hl
  obtain ⟨⟨cls2, dd2, data2, sl2⟩, ho2, hc2, n2, hd2⟩ := id hb
  simp only at hc2 hd2
  subst hc2 hd2
  have hne : b ≠ l := fun e => by subst e; rw [ho] at ho2; exact absurd (congrArg Obj.cls (Option.some.inj ho2)) (by simp)
  exact rc_eq_decline_or (k := false) ⟨_, ho2, rfl⟩ ⟨_, ho, rfl⟩ (by decide) F.sub_dict_list F.slot_list_eq F.slot_dict_eq_refl
    (fun _ hq => call_meets F.slot_list_eq ⟨_, ho2, rfl⟩ F.entry_list_eq (F.args_list_eq_2 _ _) (list_no_dict l b es ep items n2 dd2 sl2) ⟨ho, ho2, hq⟩)
    (fun _ hq => call_meets F.slot_dict_eq_refl ⟨_, ho, rfl⟩ F.entry_dict_eq (F.args_dict_eq_2 _ _) (dict_no_list l b es ep items n2 dd2 sl2) ⟨ho, ho2, hq⟩)
    (fun _ hq => wpAny_isSame_ref_other' hne ho2 ho (by simp) hq) (.inr hu) h
theorem rc_dict_tuple {l b : Addr} {items : Array Value} (hl : DictAt s.heap l) (hb : s.heap.IsTuple b items) (hu : A.units < cLine) : RcAt A s (.ref l) (.ref b) false := fun prog w E Q h => by
  obtain ⟨es, ep, ho⟩ := hl
  obtain ⟨⟨cls2, dd2, data2, sl2⟩, ho2, hc2, n2, hd2⟩ := id hb
  simp only at hc2 hd2
  subst hc2 hd2
  have hne : l ≠ b := fun e => by subst e; rw [ho] at ho2; exact absurd (congrArg Obj.cls (Option.some.inj ho2)) (by simp)
  exact rc_eq_decline_or (k := false) ⟨_, ho, rfl⟩ ⟨_, ho2, rfl⟩ (by decide) F.sub_tuple_dict F.slot_dict_eq F.slot_tuple_eq_refl
    (fun _ hq => call_meets F.slot_dict_eq ⟨_, ho, rfl⟩ F.entry_dict_eq (F.args_dict_eq_2 _ _) (dict_no_tuple l b es ep items n2 dd2 sl2) ⟨ho, ho2, hq⟩)
    (fun _ hq => call_meets F.slot_tuple_eq_refl ⟨_, ho2, rfl⟩ F.entry_tuple_eq (F.args_tuple_eq_2 _ _) (tuple_no_dict l b es ep items n2 dd2 sl2) ⟨ho, ho2, hq⟩)
    (fun _ hq => wpAny_isSame_ref_other hne ho ho2 (by simp) hq) (.inr hu) h
theorem rc_tuple_dict {l b : Addr} {items : Array Value} (hl : DictAt s.heap l) (hb : s.heap.IsTuple b items) (hu : A.units < cLine) : RcAt A s (.ref b) (.ref l) false := fun prog w E Q h => by
  obtain ⟨es, ep, ho⟩ := hl
  obtain ⟨⟨cls2, dd2, data2, sl2⟩, ho2, hc2, n2, hd2⟩ := id hb
  simp only at hc2 hd2
  subst hc2 hd2
  have hne : b ≠ l := fun e => by subst e; rw [ho] at ho2; exact absurd (congrArg Obj.cls (Option.some.inj ho2)) (by simp)
  exact rc_eq_decline_or (k := false) ⟨_, ho2, rfl⟩ ⟨_, ho, rfl⟩ (by decide) F.sub_dict_tuple F.slot_tuple_eq F.slot_dict_eq_refl
    (fun _ hq => call_meets F.slot_tuple_eq ⟨_, ho2, rfl⟩ F.entry_tuple_eq (F.args_tuple_eq_2 _ _) (tuple_no_dict l b es ep items n2 dd2 sl2) ⟨ho, ho2, hq⟩)
    (fun _ hq => call_meets F.slot_dict_eq_refl ⟨_, ho, rfl⟩ F.entry_dict_eq (F.args_dict_eq_2 _ _) (dict_no_tuple l b es ep items n2 dd2 sl2) ⟨ho, ho2, hq⟩)
    (fun _ hq => wpAny_isSame_ref_other' hne ho2 ho (by simp) hq) (.inr hu) h
end
end Mi
namespace Mi
open PySem L2 PySem.SeqAt PySem.W PyProof.Rows PySem.Spec PySem.Calls
open AutoSeq1 (wpAny_loadPart')
open MeetsSeq MeetsSeq2 MeetsSeq3 SeqRoads2
/-! == and in, within one model (dicts are hashed by the world) -/
def RcP (P : Program) (W : World) (A : Around) (s : Shared) (y x : Value) (b : Bool) : Prop := ∀ (E Q : Value → Shared → Prop), Q (.bool b) s → wpAny (model P W) A (richCompare .Eq y x) Q E s
section
variable {P : Program} {W : World} {A : Around} {s : Shared}
theorem rcP {y x : Value} {b : Bool} (h : RcAt A s y x b) : RcP P W A s y x b := fun E Q q => h P W E Q q
theorem both {y x : Value} {b : Bool} (h : EqAt A s y x b ∧ RcAt A s y x b) : EqP P W A s y x b ∧ RcP P W A s y x b := ⟨h.1.eqP, rcP h.2⟩
abbrev sqO (T : String) (u : Array Value) (n : Nat) (dd : Option Addr) (sl : Array (Option Value)) : Obj := ⟨.type T, dd, .seq u n, sl⟩
theorem tupEq (l b : Addr) (u v : Array Value) (n m : Nat) (d1 d2 : Option Addr) (s1 s2 : Array (Option Value)) (f : Nat → Bool) :
    MeetsIn P W (Builtin.«tuple.__eq__» ⟨[.ref l, .ref b], []⟩) (fun A R s => s.heap.get? l = some (sqO "tuple" u n d1 s1) ∧ s.heap.get? b = some (sqO "tuple" v m d2 s2) ∧
      (∀ j (h1 : j < u.size) (h2 : j < v.size), EqP P W A.in1 s u[j] v[j] (f j)) ∧ R (.ok (.ret (.bool ((List.range (min u.size v.size)).all f && u.size == v.size)))) s) := by
  intro A R s h
  obtain ⟨hp, gl, dd, tk, os⟩ := s
  obtain ⟨hl, hb, he, h⟩ := h
  have sub := AutoSeq1.sub_tuple_tuple
  have hZ : (u.toList.zip v.toList).length = min u.size v.size := by simp
  wp_walk using wpAny_loadPart' hl, wpAny_loadPart' hb, wpAny_forIn_list _ (fun more c t => c.1 = none ∧ t = ⟨hp, gl, dd, tk, os⟩ ∧ ∃ i, more = (u.toList.zip v.toList).drop i ∧
    R (.ok (.ret (.bool (((List.range (min u.size v.size)).drop i).all f && u.size == v.size)))) ⟨hp, gl, dd, tk, os⟩) _
  case turn =>
    rintro ⟨y, x⟩ more c t ⟨hc, rfl, i, hz, hR⟩
    have lt : i < (u.toList.zip v.toList).length := by
      rcases Nat.lt_or_ge i (u.toList.zip v.toList).length with z | z
      · exact z
      · rw [List.drop_of_length_le z] at hz; cases hz
    have lm : i < min u.size v.size := hZ ▸ lt
    have k1 : i < u.size := by omega
    have k2 : i < v.size := by omega
    rw [List.drop_eq_getElem_cons lt] at hz
    injection hz with hyx hmore
    have ey : y = u[i] := by simpa using congrArg Prod.fst hyx
    have ex : x = v[i] := by simpa using congrArg Prod.snd hyx
    subst ey ex
    have hd : (List.range (min u.size v.size)).drop i = i :: (List.range (min u.size v.size)).drop (i + 1) := by simp [List.drop_eq_getElem_cons, lm]
    rw [hd, List.all_cons] at hR
    refine wpAny_bind (he i k1 k2 _ _ ?_)
    cases q : f i with
    | true =>
      rw [q] at hR
      wp_walk
      exact ⟨rfl, rfl, i + 1, hmore, by simpa using hR⟩
    | false =>
      rw [q] at hR
      wp_walk
      simpa using hR
  case fin =>
    rintro ⟨b1, b2⟩ t ⟨hc, rfl, i, hz, hR⟩
    simp only at hc
    subst hc
    have ge : min u.size v.size ≤ i := by
      rcases Nat.lt_or_ge i (u.toList.zip v.toList).length with z | z
      · rw [List.drop_eq_getElem_cons z] at hz; cases hz
      · exact hZ ▸ z
    rw [List.drop_of_length_le (by simpa using ge)] at hR
    wp_walk
    simpa [Builtin.Tuple.tupleCompareSizes] using hR
  case h =>
    exact ⟨rfl, rfl, 0, rfl, by simpa using h⟩
theorem rcP_tuples {l b : Addr} {u v : Array Value} {f : Nat → Bool} (hl : s.heap.IsTuple l u) (hb : s.heap.IsTuple b v) (hu : A.units < cLine) (he : ∀ j (h1 : j < u.size) (h2 : j < v.size), EqP P W A.in1 s u[j] v[j] (f j)) :
    RcP P W A s (.ref l) (.ref b) ((List.range (min u.size v.size)).all f && u.size == v.size) := fun E Q h => by
  obtain ⟨⟨c1, d1, dt1, s1⟩, o1, hc1, n, hd1⟩ := id hl
  obtain ⟨⟨c2, d2, dt2, s2⟩, o2, hc2, m, hd2⟩ := id hb
  simp only at hc1 hd1 hc2 hd2
  subst hc1 hd1 hc2 hd2
  have ta : s.TypeIs (.ref l) "tuple" := ⟨_, o1, rfl⟩
  have tb : s.TypeIs (.ref b) "tuple" := ⟨_, o2, rfl⟩
  refine wpAny_richCompare_same_room (op := .Eq) ta tb F.slot_tuple_eq (call_meetsIn F.slot_tuple_eq ta F.entry_tuple_eq (F.args_tuple_eq_2 _ _) (tupEq l b u v n m d1 d2 s1 s2 f) ⟨o1, o2, he, ?_⟩) hu
  show Value.bool _ ≠ Value.notImplemented ∧ Q _ s
  exact ⟨(fun x => nomatch x), h⟩
/-! in -/
theorem conLoop (l : Addr) (u : Array Value) (n : Nat) (dd : Option Addr) (sl : Array (Option Value)) (x : Value) (f : Value → Bool) (k : Nat) :
    ∀ i : Nat, u.size - i = k → MeetsIn P W (Builtin.«list.__contains__.loop» ⟨[.ref l, x, rawInt i], []⟩) (fun A R s => s.heap.get? l = some (sqO "list" u n dd sl) ∧ (∀ y, y ∈ u → EqP P W A.in1 s y x (f y)) ∧ R (.ok (.ret (.bool ((u.toList.drop i).any f)))) s) := by
  induction k with
  | zero =>
    intro i hk A R s h
    obtain ⟨hp, gl, d, tk, os⟩ := s
    obtain ⟨hl, he, h⟩ := h
    wp_walk using wpAny_loadPart' hl
    have no : u[((i : Nat) : Int).toNat]? = none := by simp; omega
    have em : u.toList.drop i = [] := by simp; omega
    rw [em] at h
    rw [no]
    wp_walk
    exact h
  | succ k ih =>
    intro i hk A R s h
    obtain ⟨hp, gl, d, tk, os⟩ := s
    obtain ⟨hl, he, h⟩ := h
    wp_walk using wpAny_loadPart' hl
    have lt : i < u.size := by omega
    have so : u[((i : Nat) : Int).toNat]? = some u[i] := by simp [lt]
    have em : u.toList.drop i = u[i] :: u.toList.drop (i + 1) := by simp [List.drop_eq_getElem_cons, lt]
    rw [em, List.any_cons] at h
    rw [so]
    refine wpAny_bind (he _ (Array.getElem_mem lt) _ _ ?_)
    cases q : f u[i] with
    | true =>
      rw [q] at h
      wp_walk
      exact h
    | false =>
      rw [q] at h
      have up : ((i : Int) + 1) = ((i + 1 : Nat) : Int) := by omega
      wp_walk
      rw [up]
      refine ⟨plainId_quiet plain_contains_loop _, codeAny_builtin entry_contains_loop ?_⟩
      rw [Around.under_plainId plain_contains_loop _]
      exact ih (i + 1) (by omega) A R _ ⟨hl, he, by simpa using h⟩
theorem conList (l : Addr) (u : Array Value) (n : Nat) (dd : Option Addr) (sl : Array (Option Value)) (x : Value) (f : Value → Bool) :
    MeetsIn P W (Builtin.«list.__contains__» ⟨[.ref l, x], []⟩) (fun A R s => s.heap.get? l = some (sqO "list" u n dd sl) ∧ (∀ y, y ∈ u → EqP P W A.in1 s y x (f y)) ∧ R (.ok (.ret (.bool (u.any f)))) s) := by
  intro A R s h
  obtain ⟨hp, gl, d, tk, os⟩ := s
  obtain ⟨hl, he, h⟩ := h
  wp_walk using wpAny_loadPart' hl
  refine ⟨plainId_quiet plain_contains_loop _, codeAny_builtin entry_contains_loop ?_⟩
  rw [Around.under_plainId plain_contains_loop _]
  exact conLoop l u n dd sl x f _ 0 rfl A R _ ⟨hl, he, by simpa using h⟩
theorem conTup (l : Addr) (u : Array Value) (n : Nat) (dd : Option Addr) (sl : Array (Option Value)) (x : Value) (f : Value → Bool) :
    MeetsIn P W (Builtin.«tuple.__contains__» ⟨[.ref l, x], []⟩) (fun A R s => s.heap.get? l = some (sqO "tuple" u n dd sl) ∧ (∀ y, y ∈ u → EqP P W A.in1 s y x (f y)) ∧ R (.ok (.ret (.bool (u.any f)))) s) := by
  intro A R s h
  obtain ⟨hp, gl, d, tk, os⟩ := s
  obtain ⟨hl, he, h⟩ := h
  wp_walk using wpAny_loadPart' hl, wpAny_forIn_array _ (fun more c t => c.1 = none ∧ t = ⟨hp, gl, d, tk, os⟩ ∧ (∀ y, y ∈ more → y ∈ u) ∧ R (.ok (.ret (.bool (more.any f)))) ⟨hp, gl, d, tk, os⟩) _
  case turn =>
    rintro y more c t ⟨hc, rfl, hm, hR⟩
    refine wpAny_bind (he y (hm y (List.mem_cons_self ..)) _ _ ?_)
    rw [List.any_cons] at hR
    cases q : f y with
    | true =>
      rw [q] at hR
      wp_walk
      simpa using hR
    | false =>
      rw [q] at hR
      wp_walk
      exact ⟨rfl, rfl, fun z hz => hm z (List.mem_cons_of_mem _ hz), by simpa using hR⟩
  case fin =>
    rintro ⟨b1, b2⟩ t ⟨hc, rfl, -, hR⟩
    simp only at hc
    subst hc
    wp_walk
    simpa using hR
  case h =>
    exact ⟨rfl, rfl, fun y hy => by simpa using hy, by simpa using h⟩
theorem in_of {E : Value → Shared → Prop} {T id : String} {B : Builtin} {c x : Value} {S : PySem.Spec} {Q : Value → Shared → Prop} {k : Bool} (neg : Bool) (hT : s.TypeIs c T) (slot : Slot T "__contains__" id) (en : entryFor table id = some B) (as : argsOk id ⟨[c, x], []⟩) (g : MeetsIn P W (B ⟨[c, x], []⟩) S)
    (h : S A (wants (fun v s' => v = .bool k ∧ s' = s) E) s) (q : Q (.bool (if neg then !k else k)) s) : wpAny (model P W) A (compareOp (if neg then .NotIn else .In) x c) Q E s := by
  have go : ∀ R : Bool → Shared → Prop, R k s → wpAny (model P W) A (contains c x) R E s := fun R r => by
    refine wpAny_contains_slot hT slot (wpAny_mono (call_meetsIn slot hT en as g h) (fun v s' hv => ?_) fun _ _ e => e)
    obtain ⟨rfl, rfl⟩ := hv
    exact wpAny_truthy_bool r
  cases neg with
  | false => exact wpAny_bind (go _ (wpAny_pure q))
  | true => exact wpAny_bind (go _ (wpAny_pure q))
theorem inP_list {E : Value → Shared → Prop} {l : Addr} {u : Array Value} {x : Value} {Q : Value → Shared → Prop} (neg : Bool) (f : Value → Bool) (hl : s.heap.IsList l u) (he : ∀ y, y ∈ u → EqP P W A.in1 s y x (f y)) (q : Q (.bool (if neg then !(u.any f) else u.any f)) s) :
    wpAny (model P W) A (compareOp (if neg then .NotIn else .In) x (.ref l)) Q E s := by
  obtain ⟨⟨c1, d1, dt1, s1⟩, o1, hc1, n, hd1⟩ := id hl
  simp only at hc1 hd1
  subst hc1 hd1
  exact in_of neg ⟨_, o1, rfl⟩ F.slot_list_contains F.entry_list_contains (F.args_list_contains_2 _ _) (conList l u n d1 s1 x f) ⟨o1, he, rfl, rfl⟩ q
theorem inP_tuple {E : Value → Shared → Prop} {l : Addr} {u : Array Value} {x : Value} {Q : Value → Shared → Prop} (neg : Bool) (f : Value → Bool) (hl : s.heap.IsTuple l u) (he : ∀ y, y ∈ u → EqP P W A.in1 s y x (f y)) (q : Q (.bool (if neg then !(u.any f) else u.any f)) s) :
    wpAny (model P W) A (compareOp (if neg then .NotIn else .In) x (.ref l)) Q E s := by
  obtain ⟨⟨c1, d1, dt1, s1⟩, o1, hc1, n, hd1⟩ := id hl
  simp only at hc1 hd1
  subst hc1 hd1
  exact in_of neg ⟨_, o1, rfl⟩ F.slot_tuple_contains F.entry_tuple_contains (F.args_tuple_contains_2 _ _) (conTup l u n d1 s1 x f) ⟨o1, he, rfl, rfl⟩ q
end
end Mi
namespace Mi
open PySem L2 PySem.SeqAt PySem.W PyProof.Rows PySem.Spec PySem.Calls
open AutoSeq1 (wpAny_loadPart')
open MeetsSeq MeetsSeq2 MeetsSeq3 SeqRoads2
/-! != of tuples and lists, within one model -/
def RnP (P : Program) (W : World) (A : Around) (s : Shared) (y x : Value) (b : Bool) : Prop := ∀ (E Q : Value → Shared → Prop), Q (.bool b) s → wpAny (model P W) A (richCompare .NotEq y x) Q E s
section
variable {P : Program} {W : World} {A : Around} {s : Shared}
theorem rnP {y x : Value} {b : Bool} (h : RcNeAt A s y x b) : RnP P W A s y x b := fun E Q q => h P W E Q q
theorem tupNe (l b : Addr) (u v : Array Value) (n m : Nat) (d1 d2 : Option Addr) (s1 s2 : Array (Option Value)) (f : Nat → Bool) :
    MeetsIn P W (Builtin.«tuple.__ne__» ⟨[.ref l, .ref b], []⟩) (fun A R s => s.heap.get? l = some (sqO "tuple" u n d1 s1) ∧ s.heap.get? b = some (sqO "tuple" v m d2 s2) ∧
      (∀ j (h1 : j < u.size) (h2 : j < v.size), EqP P W A.in1 s u[j] v[j] (f j)) ∧ R (.ok (.ret (.bool (!((List.range (min u.size v.size)).all f && u.size == v.size))))) s) := by
  intro A R s h
  obtain ⟨hp, gl, dd, tk, os⟩ := s
  obtain ⟨hl, hb, he, h⟩ := h
  have sub := AutoSeq1.sub_tuple_tuple
  have hZ : (u.toList.zip v.toList).length = min u.size v.size := by simp
  wp_walk using wpAny_loadPart' hl, wpAny_loadPart' hb, wpAny_forIn_list _ (fun more c t => c.1 = none ∧ t = ⟨hp, gl, dd, tk, os⟩ ∧ ∃ i, more = (u.toList.zip v.toList).drop i ∧
    R (.ok (.ret (.bool (!(((List.range (min u.size v.size)).drop i).all f && u.size == v.size))))) ⟨hp, gl, dd, tk, os⟩) _
  case turn =>
    rintro ⟨y, x⟩ more c t ⟨hc, rfl, i, hz, hR⟩
    have lt : i < (u.toList.zip v.toList).length := by
      rcases Nat.lt_or_ge i (u.toList.zip v.toList).length with z | z
      · exact z
      · rw [List.drop_of_length_le z] at hz; cases hz
    have lm : i < min u.size v.size := hZ ▸ lt
    have k1 : i < u.size := by omega
    have k2 : i < v.size := by omega
    rw [List.drop_eq_getElem_cons lt] at hz
    injection hz with hyx hmore
    have ey : y = u[i] := by simpa using congrArg Prod.fst hyx
    have ex : x = v[i] := by simpa using congrArg Prod.snd hyx
    subst ey ex
    have hd : (List.range (min u.size v.size)).drop i = i :: (List.range (min u.size v.size)).drop (i + 1) := by simp [List.drop_eq_getElem_cons, lm]
    rw [hd, List.all_cons] at hR
    refine wpAny_bind (he i k1 k2 _ _ ?_)
    cases q : f i with
    | true =>
      rw [q] at hR
      wp_walk
      exact ⟨rfl, rfl, i + 1, hmore, by simpa using hR⟩
    | false =>
      rw [q] at hR
      wp_walk
      simpa using hR
  case fin =>
    rintro ⟨b1, b2⟩ t ⟨hc, rfl, i, hz, hR⟩
    simp only at hc
    subst hc
    have ge : min u.size v.size ≤ i := by
      rcases Nat.lt_or_ge i (u.toList.zip v.toList).length with z | z
      · rw [List.drop_eq_getElem_cons z] at hz; cases hz
      · exact hZ ▸ z
    rw [List.drop_of_length_le (by simpa using ge)] at hR
    wp_walk
    simpa [Builtin.Tuple.tupleCompareSizes, bne] using hR
  case h =>
    exact ⟨rfl, rfl, 0, rfl, by simpa using h⟩
theorem rnP_tuples {l b : Addr} {u v : Array Value} {f : Nat → Bool} (hl : s.heap.IsTuple l u) (hb : s.heap.IsTuple b v) (hu : A.units < cLine) (he : ∀ j (h1 : j < u.size) (h2 : j < v.size), EqP P W A.in1 s u[j] v[j] (f j)) :
    RnP P W A s (.ref l) (.ref b) (!((List.range (min u.size v.size)).all f && u.size == v.size)) := fun E Q h => by
  obtain ⟨⟨c1, d1, dt1, s1⟩, o1, hc1, n, hd1⟩ := id hl
  obtain ⟨⟨c2, d2, dt2, s2⟩, o2, hc2, m, hd2⟩ := id hb
  simp only at hc1 hd1 hc2 hd2
  subst hc1 hd1 hc2 hd2
  have ta : s.TypeIs (.ref l) "tuple" := ⟨_, o1, rfl⟩
  have tb : s.TypeIs (.ref b) "tuple" := ⟨_, o2, rfl⟩
  refine wpAny_richCompare_same_room (op := .NotEq) ta tb F.slot_tuple_ne (call_meetsIn F.slot_tuple_ne ta F.entry_tuple_ne (F.args_tuple_ne_2 _ _) (tupNe l b u v n m d1 d2 s1 s2 f) ⟨o1, o2, he, ?_⟩) hu
  show Value.bool _ ≠ Value.notImplemented ∧ Q _ s
  exact ⟨(fun x => nomatch x), h⟩
theorem neLoop (l b : Addr) (u v : Array Value) (n m : Nat) (d1 d2 : Option Addr) (s1 s2 : Array (Option Value)) (hsz : u.size = v.size) (f : Nat → Bool) (k : Nat) :
    ∀ i : Nat, u.size - i = k → MeetsIn P W (Builtin.«list.__eq__.loop» ⟨[.ref l, .ref b, rawInt i, rawInt 3], []⟩) (fun A R s => s.heap.get? l = some (sqO "list" u n d1 s1) ∧ s.heap.get? b = some (sqO "list" v m d2 s2) ∧
      (∀ j (h1 : j < u.size) (h2 : j < v.size), EqP P W A.in1 s u[j] v[j] (f j)) ∧ R (.ok (.ret (.bool (!((List.range u.size).drop i).all f)))) s) := by
  induction k with
  | zero =>
    intro i hk A R s h
    obtain ⟨hp, g, d, tk, os⟩ := s; obtain ⟨hl, hb, he, h⟩ := h
    wp_walk using wpAny_loadPart' hl, wpAny_loadPart' hb
    have hi1 : u[((i : Nat) : Int).toNat]? = none := by simp; omega
    have hi2 : v[((i : Nat) : Int).toNat]? = none := by simp; omega
    have hd : (List.range u.size).drop i = [] := by simp; omega
    rw [hd] at h
    rw [hi1, hi2]
    wp_walk using wpAny_loadPart' hl, wpAny_loadPart' hb
    show R (.ok (.ret (.bool (u.size != v.size)))) _
    rw [hsz]
    simpa using h
  | succ k ih =>
    intro i hk A R s h
    obtain ⟨hp, g, d, tk, os⟩ := s; obtain ⟨hl, hb, he, h⟩ := h
    wp_walk using wpAny_loadPart' hl, wpAny_loadPart' hb
    have hlt : i < u.size := by omega
    have hlt2 : i < v.size := by omega
    have hi1 : u[((i : Nat) : Int).toNat]? = some u[i] := by simp [hlt]
    have hi2 : v[((i : Nat) : Int).toNat]? = some v[i] := by simp [hlt2]
    have hd : (List.range u.size).drop i = i :: (List.range u.size).drop (i + 1) := by simp [List.drop_eq_getElem_cons, hlt]
    have hc : ((i : Int) + 1) = ((i + 1 : Nat) : Int) := by omega
    rw [hd, List.all_cons] at h
    rw [hi1, hi2]
    refine wpAny_bind (he i hlt hlt2 _ _ ?_)
    cases hb' : f i with
    | true =>
      rw [hb'] at h
      wp_walk
      rw [hc]
      exact ⟨plainId_quiet plain_eq_loop _, codeAny_builtin entry_eq_loop (by
        rw [Around.under_plainId plain_eq_loop _]
        exact ih (i + 1) (by omega) A R _ ⟨hl, hb, he, by simpa using h⟩)⟩
    | false =>
      rw [hb'] at h
      wp_walk using wpAny_loadPart' hl, wpAny_loadPart' hb
      rw [hi1, hi2]
      wp_walk
      simpa using h
theorem lstNe (l b : Addr) (u v : Array Value) (n m : Nat) (d1 d2 : Option Addr) (s1 s2 : Array (Option Value)) (hsz : u.size = v.size) (f : Nat → Bool) :
    MeetsIn P W (Builtin.«list.__ne__» ⟨[.ref l, .ref b], []⟩) (fun A R s => s.heap.get? l = some (sqO "list" u n d1 s1) ∧ s.heap.get? b = some (sqO "list" v m d2 s2) ∧
      (∀ j (h1 : j < u.size) (h2 : j < v.size), EqP P W A.in1 s u[j] v[j] (f j)) ∧ R (.ok (.ret (.bool (!(List.range u.size).all f)))) s) := by
  intro A R s h
  obtain ⟨hp, g, d, tk, os⟩ := s; obtain ⟨hl, hb, he, h⟩ := h
  have f3 := AutoSeq1.sub_list_list
  have hne : ¬ (u.size != v.size) = true := by simp [hsz]
  wp_walk using wpAny_loadPart' hl, wpAny_loadPart' hb
  exact ⟨plainId_quiet plain_eq_loop _, codeAny_builtin entry_eq_loop (by
    rw [Around.under_plainId plain_eq_loop _]
    exact neLoop l b u v n m d1 d2 s1 s2 hsz f _ 0 rfl A R _ ⟨hl, hb, he, by simpa using h⟩)⟩
theorem rnP_lists {l b : Addr} {u v : Array Value} {f : Nat → Bool} (hl : s.heap.IsList l u) (hb : s.heap.IsList b v) (hsz : u.size = v.size) (hu : A.units < cLine) (he : ∀ j (h1 : j < u.size) (h2 : j < v.size), EqP P W A.in1 s u[j] v[j] (f j)) :
    RnP P W A s (.ref l) (.ref b) (!(List.range u.size).all f) := fun E Q h => by
  obtain ⟨⟨c1, d1, dt1, s1⟩, o1, hc1, n, hd1⟩ := id hl
  obtain ⟨⟨c2, d2, dt2, s2⟩, o2, hc2, m, hd2⟩ := id hb
  simp only at hc1 hd1 hc2 hd2
  subst hc1 hd1 hc2 hd2
  have ta : s.TypeIs (.ref l) "list" := ⟨_, o1, rfl⟩
  have tb : s.TypeIs (.ref b) "list" := ⟨_, o2, rfl⟩
  refine wpAny_richCompare_same_room (op := .NotEq) ta tb F.slot_list_ne (call_meetsIn F.slot_list_ne ta F.entry_list_ne (F.args_list_ne_2 _ _) (lstNe l b u v n m d1 d2 s1 s2 hsz f) ⟨o1, o2, he, ?_⟩) hu
  show Value.bool _ ≠ Value.notImplemented ∧ Q _ s
  exact ⟨(fun x => nomatch x), h⟩
end
end Mi
namespace Mi
open PySem L2 PySem.SeqAt

section
variable {X : Cx} {g : Gd} {ρ : List Addr} {H : Hp} {st : Store} {pins : List (Addr × Obj)} {σ : St} {s : Shared}

theorem range_all (e : Nat → Bool) (n : Nat) : (List.range (n + 1)).all e = (e 0 && (List.range n).all fun j => e (j + 1)) := by
  rw [List.range_succ_eq_map, List.all_cons, List.all_map]; rfl
theorem eqz_all {f : Val → Val → Option Bool} : ∀ (xs ys : List Val) (b : Bool), eqz f xs ys = some b →
    ∃ e : Nat → Bool, (∀ (j : Nat) x y, xs[j]? = some x → ys[j]? = some y → f x y = some (e j)) ∧ b = (List.range (min xs.length ys.length)).all e
  | [], ys, b, h => by
    refine ⟨fun _ => true, fun j x y h1 _ => by simp at h1, ?_⟩
    simp only [eqz, Option.some.injEq] at h
    simp [← h]
  | x :: xs, [], b, h => by
    refine ⟨fun _ => true, fun j x y _ h1 => by simp at h1, ?_⟩
    simp only [eqz, Option.some.injEq] at h
    simp [← h]
  | x :: xs, y :: ys, b, h => by
    simp only [eqz] at h
    cases q : f x y with
    | none => rw [q] at h; cases h
    | some c =>
      rw [q] at h
      cases q2 : eqz f xs ys with
      | none => rw [q2] at h; cases h
      | some d =>
        rw [q2] at h
        simp only [Option.map_some, Option.bind_some, Option.some.injEq] at h
        obtain ⟨e, h1, h2⟩ := eqz_all xs ys d q2
        refine ⟨fun j => match j with | 0 => c | j + 1 => e j, fun j u v hu hv => ?_, ?_⟩
        · cases j with
          | zero => simp at hu hv; subst hu; subst hv; exact q
          | succ j => exact h1 j u v (by simpa using hu) (by simpa using hv)
        · rw [List.length_cons, List.length_cons, Nat.succ_min_succ, range_all, ← h, h2]
/-- items of one thing are equal -/
theorem eqz_same {f : Val → Val → Option Bool} (hf : ∀ x y V b, Rel g ρ H x V → Rel g ρ H y V → f x y = some b → b = true) : ∀ (xs ys : List Val) (vs : List V) (b : Bool), Rels g ρ H xs vs → Rels g ρ H ys vs → eqz f xs ys = some b → b = true
  | [], ys, vs, b, _, _, h => by simp only [eqz, Option.some.injEq] at h; exact h.symm
  | x :: xs, [], vs, b, _, _, h => by simp only [eqz, Option.some.injEq] at h; exact h.symm
  | x :: xs, y :: ys, vs, b, h1, h2, h => by
    obtain ⟨v, r, rfl, a1, a2⟩ := h1.cons_inv
    obtain ⟨v', r', e, b1, b2⟩ := h2.cons_inv
    cases e
    simp only [eqz] at h
    cases q : f x y with
    | none => rw [q] at h; cases h
    | some c =>
      rw [q] at h
      cases q2 : eqz f xs ys with
      | none => rw [q2] at h; cases h
      | some d =>
        rw [q2] at h
        simp only [Option.map_some, Option.bind_some, Option.some.injEq] at h
        rw [← h, hf x y v c a1 b1 q, eqz_same hf xs ys r d a2 b2 q2]; rfl
theorem flat_sd {x : Val} {v : V} (h : Rel g ρ H x v) (f : flat x = true) : (∃ b, x = .bl b ∧ v = .bl b) ∨ (∃ b, x = .int b ∧ v = .int b) ∨ (∃ b, x = .str b ∧ v = .str (tx b)) ∨ (x = .non ∧ v = .non) := by
  cases x <;> (try (simp only [flat, Bool.false_eq_true] at f; done)) <;> simp only [Rel] at h
  · exact .inr (.inr (.inr ⟨rfl, h⟩))
  · exact .inl ⟨_, rfl, h⟩
  · exact .inr (.inl ⟨_, rfl, h⟩)
  · exact .inr (.inr (.inl ⟨_, rfl, h.1⟩))
theorem beq_tx (a b : Txt) : (tx a == tx b) = (a == b) := by
  rw [Bool.eq_iff_iff, beq_iff_eq, beq_iff_eq]; exact tx_eq
/-- == of flat values -/
theorem eqF {x y : Val} {vx vy : V} {v u : Value} (hx : Rel g ρ H x vx) (hy : Rel g ρ H y vy) (rv : RelV vx v) (ru : RelV vy u) (fx : flat x = true) (fy : flat y = true) (A : Around) : EqAt A s v u (eqf x y) ∧ RcAt A s v u (eqf x y) := by
  rcases flat_sd hx fx with ⟨b, rfl, rfl⟩ | ⟨b, rfl, rfl⟩ | ⟨b, rfl, rfl⟩ | ⟨rfl, rfl⟩
  · cases rv
    rcases flat_sd hy fy with ⟨c, rfl, rfl⟩ | ⟨c, rfl, rfl⟩ | ⟨c, rfl, rfl⟩ | ⟨rfl, rfl⟩
    · cases ru; exact ⟨EqAt.bool_bool _ _, RcAt.bool_bool _ _⟩
    · obtain ⟨t', rfl⟩ := ru; exact ⟨EqAt.bool_int _ _ _, RcAt.bool_int _ _ _⟩
    · obtain ⟨t', rfl⟩ := ru; exact ⟨EqAt.bool_str _ _ _, RcAt.bool_str _ _ _⟩
    · cases ru; exact ⟨EqAt.bool_none _, RcAt.bool_none _⟩
  · obtain ⟨t, rfl⟩ := rv
    rcases flat_sd hy fy with ⟨c, rfl, rfl⟩ | ⟨c, rfl, rfl⟩ | ⟨c, rfl, rfl⟩ | ⟨rfl, rfl⟩
    · cases ru; exact ⟨EqAt.int_bool _ _ _, RcAt.int_bool _ _ _⟩
    · obtain ⟨t', rfl⟩ := ru; exact ⟨EqAt.int_int _ _ _ _, RcAt.int_int _ _ _ _⟩
    · obtain ⟨t', rfl⟩ := ru; exact ⟨EqAt.int_str _ _ _ _, RcAt.int_str _ _ _ _⟩
    · cases ru; exact ⟨EqAt.int_none _ _, RcAt.int_none _ _⟩
  · obtain ⟨t, rfl⟩ := rv
    rcases flat_sd hy fy with ⟨c, rfl, rfl⟩ | ⟨c, rfl, rfl⟩ | ⟨c, rfl, rfl⟩ | ⟨rfl, rfl⟩
    · cases ru; exact ⟨EqAt.str_bool _ _ _, RcAt.str_bool _ _ _⟩
    · obtain ⟨t', rfl⟩ := ru; exact ⟨EqAt.str_int _ _ _ _, RcAt.str_int _ _ _ _⟩
    · obtain ⟨t', rfl⟩ := ru; show EqAt A s _ _ (b == c) ∧ RcAt A s _ _ (b == c); rw [← beq_tx]; exact ⟨EqAt.str_str _ _ _ _, RcAt.str_str _ _ _ _⟩
    · cases ru; exact ⟨EqAt.str_none _ _, RcAt.str_none _ _⟩
  · cases rv
    rcases flat_sd hy fy with ⟨c, rfl, rfl⟩ | ⟨c, rfl, rfl⟩ | ⟨c, rfl, rfl⟩ | ⟨rfl, rfl⟩
    · cases ru; exact ⟨EqAt.none_bool _, RcAt.none_bool _⟩
    · obtain ⟨t', rfl⟩ := ru; exact ⟨EqAt.none_int _ _, RcAt.none_int _ _⟩
    · obtain ⟨t', rfl⟩ := ru; exact ⟨EqAt.none_str _ _, RcAt.none_str _ _⟩
    · cases ru; exact ⟨EqAt.same _, RcAt.none_none⟩
theorem eqf_same {x y : Val} {V : V} (hx : Rel g ρ H x V) (hy : Rel g ρ H y V) (fx : flat x = true) (fy : flat y = true) : eqf x y = true := by
  cases x <;> simp only [flat, Bool.false_eq_true] at fx <;> cases y <;> simp only [flat, Bool.false_eq_true] at fy <;> simp only [Rel] at hx hy
  all_goals first
    | (subst hx; cases hy; simp [eqf]; done)
    | (obtain ⟨rfl, _⟩ := hx; obtain ⟨e, _⟩ := hy; injection e with e; have := tx_inj e; subst this; simp [eqf])
    | (rw [hx] at hy; exact nomatch hy)
    | (rw [hx] at hy; exact nomatch hy.1)
    | (rw [hy] at hx; exact nomatch hx.1)
/-- a list and a flat value; a tuple and a flat value -/
theorem eqLF {a : Addr} {its : Array Value} {y : Val} {vy : V} {u : Value} (t : s.heap.IsList a its) (hy : Rel g ρ H y vy) (ru : RelV vy u) (fy : flat y = true) {A : Around} (hu : A.units < cLine) :
    (EqAt A s (.ref a) u false ∧ RcAt A s (.ref a) u false) ∧ (EqAt A s u (.ref a) false ∧ RcAt A s u (.ref a) false) := by
  rcases flat_sd hy fy with ⟨c, rfl, rfl⟩ | ⟨c, rfl, rfl⟩ | ⟨c, rfl, rfl⟩ | ⟨rfl, rfl⟩
  · cases ru; exact ⟨⟨EqAt.list_bool _ t hu, RcAt.list_bool _ t hu⟩, ⟨EqAt.bool_list _ t hu, RcAt.bool_list _ t hu⟩⟩
  · obtain ⟨t', rfl⟩ := ru; exact ⟨⟨EqAt.list_int _ _ t hu, RcAt.list_int _ _ t hu⟩, ⟨EqAt.int_list _ _ t hu, RcAt.int_list _ _ t hu⟩⟩
  · obtain ⟨t', rfl⟩ := ru; exact ⟨⟨EqAt.list_str _ _ t hu, RcAt.list_str _ _ t hu⟩, ⟨EqAt.str_list _ _ t hu, RcAt.str_list _ _ t hu⟩⟩
  · cases ru; exact ⟨⟨EqAt.list_none t hu, RcAt.list_none t hu⟩, ⟨EqAt.none_list t hu, RcAt.none_list t hu⟩⟩
theorem eqTF {a : Addr} {its : Array Value} {y : Val} {vy : V} {u : Value} (t : s.heap.IsTuple a its) (hy : Rel g ρ H y vy) (ru : RelV vy u) (fy : flat y = true) {A : Around} (hu : A.units < cLine) :
    (EqAt A s (.ref a) u false ∧ RcAt A s (.ref a) u false) ∧ (EqAt A s u (.ref a) false ∧ RcAt A s u (.ref a) false) := by
  rcases flat_sd hy fy with ⟨c, rfl, rfl⟩ | ⟨c, rfl, rfl⟩ | ⟨c, rfl, rfl⟩ | ⟨rfl, rfl⟩
  · cases ru; exact ⟨⟨EqAt.tuple_bool _ t hu, RcAt.tuple_bool _ t hu⟩, ⟨EqAt.bool_tuple _ t hu, RcAt.bool_tuple _ t hu⟩⟩
  · obtain ⟨t', rfl⟩ := ru; exact ⟨⟨EqAt.tuple_int _ _ t hu, RcAt.tuple_int _ _ t hu⟩, ⟨EqAt.int_tuple _ _ t hu, RcAt.int_tuple _ _ t hu⟩⟩
  · obtain ⟨t', rfl⟩ := ru; exact ⟨⟨EqAt.tuple_str _ _ t hu, RcAt.tuple_str _ _ t hu⟩, ⟨EqAt.str_tuple _ _ t hu, RcAt.str_tuple _ _ t hu⟩⟩
  · cases ru; exact ⟨⟨EqAt.tuple_none t hu, RcAt.tuple_none t hu⟩, ⟨EqAt.none_tuple t hu, RcAt.none_tuple t hu⟩⟩
/-- a value's place and what lies there -/
def VwR (g : Gd) (ρ : List Addr) (H : Hp) : Sv → V → Prop
  | .flt, v => ∀ a, v ≠ .ref a
  | .tup xs, v => ∃ a vs, v = .ref a ∧ (H a = some (.tup vs) ∨ KTup g.K a vs) ∧ Rels g ρ H xs vs
  | .lst xs, v => ∃ a vs, v = .ref a ∧ (Rd H a (.lst vs) ∨ KLst g.K a vs) ∧ Rels g ρ H xs vs
  | .dct ks xs, v => ∃ a kvs, v = .ref a ∧ Rd H a (.dK kvs) ∧ kvs.map (·.1) = ks.map tk ∧ Rels g ρ H xs (kvs.map (·.2))
theorem view_flt {x : Val} (h : view st x = some .flt) : flat x = true := by
  cases x <;> first | rfl | (simp only [view, reduceCtorEq, Option.some.injEq] at h; done) | skip
  rename_i n
  simp only [view] at h
  split at h <;> simp at h
theorem view_sd (w : Wd g ρ st H) {x : Val} {v : V} {S : Sv} (h : Rel g ρ H x v) (e : view st x = some S) : VwR g ρ H S v := by
  cases x with
  | tup xs => simp only [view, Option.some.injEq] at e; subst e; simp only [Rel] at h; obtain ⟨a, vs, e, k, _, r⟩ := h; exact ⟨a, vs, e, k, r⟩
  | lst xs => simp only [view, Option.some.injEq] at e; subst e; obtain ⟨a, vs, e, k, _, r⟩ := asL_sd w h (show asL st (.lst xs) = some xs from rfl); exact ⟨a, vs, e, k, r⟩
  | dct ks xs => simp only [view, Option.some.injEq] at e; subst e; obtain ⟨a, vs, e, k, _, k2, r⟩ := asD_sd w h (show asD st (.dct ks xs) = some (ks, xs) from rfl); exact ⟨a, vs, e, k, k2.1, r⟩
  | loc n =>
    simp only [view] at e
    split at e
    · rename_i xs q
      cases e
      obtain ⟨a, vs, e, k, _, r⟩ := asL_sd w h (show asL st (.loc n) = some xs by simp only [asL, q]); exact ⟨a, vs, e, k, r⟩
    · rename_i ks xs q
      cases e
      obtain ⟨a, vs, e, k, _, k2, r⟩ := asD_sd w h (show asD st (.loc n) = some (ks, xs) by simp only [asD, q]); exact ⟨a, vs, e, k, k2.1, r⟩
    · cases e
  | _ =>
    simp only [view, Option.some.injEq] at e; subst e; simp only [Rel] at h
    intro a z
    first | (rw [h] at z; cases z) | (rw [h.1] at z; cases z)
/-- two views of one thing -/
def Same (g : Gd) (ρ : List Addr) (H : Hp) : Sv → Sv → Prop
  | .flt, .flt => True
  | .tup xs, .tup ys => ∃ vs, Rels g ρ H xs vs ∧ Rels g ρ H ys vs
  | .lst xs, .lst ys => ∃ vs, Rels g ρ H xs vs ∧ Rels g ρ H ys vs
  | .dct ks xs, .dct ls ys => ks = ls ∧ ∃ a kvs, Rd H a (.dK kvs) ∧ kvs.map (·.1) = ks.map tk ∧ Rels g ρ H xs (kvs.map (·.2)) ∧ Rels g ρ H ys (kvs.map (·.2))
  | _, _ => False
theorem tks_inj : ∀ {ks ls : List Txt}, ks.map tk = ls.map tk → ks = ls
  | [], [], _ => rfl
  | [], _ :: _, h => by cases h
  | _ :: _, [], h => by cases h
  | k :: ks, l :: ls, h => by
    simp only [List.map_cons, List.cons.injEq] at h
    rw [tk_inj h.1, tks_inj h.2]
theorem vw_cong (ap : Apart g H) {S T : Sv} {v : V} (h1 : VwR g ρ H S v) (h2 : VwR g ρ H T v) : Same g ρ H S T := by
  cases S with
  | flt => cases T with
    | flt => trivial
    | tup ys => obtain ⟨a, _, e, _⟩ := h2; exact h1 a e
    | lst ys => obtain ⟨a, _, e, _⟩ := h2; exact h1 a e
    | dct ls ys => obtain ⟨a, _, e, _⟩ := h2; exact h1 a e
  | tup xs =>
    obtain ⟨a, vs, rfl, k1, r1⟩ := h1
    cases T with
    | flt => exact h2 a rfl
    | tup ys =>
      obtain ⟨a', us, e, k2, r2⟩ := h2
      cases e
      have e : vs = us := by
        rcases k1 with k1 | k1 <;> rcases k2 with k2 | k2
        · rw [k1] at k2; injection k2 with k2; injection k2
        · rw [ktup_none ap k2] at k1; cases k1
        · rw [ktup_none ap k1] at k2; cases k2
        · exact ktup_inj k1 k2
      subst e
      exact ⟨_, r1, r2⟩
    | lst ys =>
      obtain ⟨a', us, e, k2, r2⟩ := h2
      cases e
      rcases k1 with k1 | k1 <;> rcases k2 with (k2 | ⟨o, k2⟩) | k2
      · rw [k1] at k2; cases k2
      · rw [k1] at k2; cases k2
      · rw [klst_none ap k2] at k1; cases k1
      · rw [ktup_none ap k1] at k2; cases k2
      · rw [ktup_none ap k1] at k2; cases k2
      · exact ktup_klst k1 k2
    | dct ls ys =>
      obtain ⟨a', us, e, k2, r2⟩ := h2
      cases e
      rcases k1 with k1 | k1 <;> rcases k2 with k2 | ⟨o, k2⟩
      · rw [k1] at k2; cases k2
      · rw [k1] at k2; cases k2
      · rw [ktup_none ap k1] at k2; cases k2
      · rw [ktup_none ap k1] at k2; cases k2
  | lst xs =>
    obtain ⟨a, vs, rfl, k1, r1⟩ := h1
    cases T with
    | flt => exact h2 a rfl
    | tup ys =>
      obtain ⟨a', us, e, k2, r2⟩ := h2
      cases e
      rcases k2 with k2 | k2 <;> rcases k1 with (k1 | ⟨o, k1⟩) | k1
      · rw [k1] at k2; cases k2
      · rw [k1] at k2; cases k2
      · rw [klst_none ap k1] at k2; cases k2
      · rw [ktup_none ap k2] at k1; cases k1
      · rw [ktup_none ap k2] at k1; cases k1
      · exact ktup_klst k2 k1
    | lst ys =>
      obtain ⟨a', us, e, k2, r2⟩ := h2
      cases e
      have e : vs = us := by
        rcases k1 with (k1 | ⟨o, k1⟩) | k1 <;> rcases k2 with (k2 | ⟨o', k2⟩) | k2
        · rw [k1] at k2; injection k2 with k2; injection k2
        · rw [k1] at k2; cases k2
        · rw [klst_none ap k2] at k1; cases k1
        · rw [k1] at k2; cases k2
        · rw [k1] at k2; injection k2 with k2; injection k2 with _ k2; injection k2
        · rw [klst_none ap k2] at k1; cases k1
        · rw [klst_none ap k1] at k2; cases k2
        · rw [klst_none ap k1] at k2; cases k2
        · exact klst_inj k1 k2
      subst e
      exact ⟨_, r1, r2⟩
    | dct ls ys =>
      obtain ⟨a', us, e, k2, r2⟩ := h2
      cases e
      rcases k1 with (k1 | ⟨o, k1⟩) | k1 <;> rcases k2 with k2 | ⟨o', k2⟩
      · rw [k1] at k2; cases k2
      · rw [k1] at k2; cases k2
      · rw [k1] at k2; cases k2
      · rw [k1] at k2; cases k2
      · rw [klst_none ap k1] at k2; cases k2
      · rw [klst_none ap k1] at k2; cases k2
  | dct ks xs =>
    obtain ⟨a, kvs, rfl, k1, e1, r1⟩ := h1
    cases T with
    | flt => exact h2 a rfl
    | tup ys =>
      obtain ⟨a', us, e, k2, r2⟩ := h2
      cases e
      rcases k2 with k2 | k2 <;> rcases k1 with k1 | ⟨o, k1⟩
      · rw [k1] at k2; cases k2
      · rw [k1] at k2; cases k2
      · rw [ktup_none ap k2] at k1; cases k1
      · rw [ktup_none ap k2] at k1; cases k1
    | lst ys =>
      obtain ⟨a', us, e, k2, r2⟩ := h2
      cases e
      rcases k2 with (k2 | ⟨o, k2⟩) | k2 <;> rcases k1 with k1 | ⟨o', k1⟩
      · rw [k1] at k2; cases k2
      · rw [k1] at k2; cases k2
      · rw [k1] at k2; cases k2
      · rw [k1] at k2; cases k2
      · rw [klst_none ap k2] at k1; cases k1
      · rw [klst_none ap k2] at k1; cases k1
    | dct ls ys =>
      obtain ⟨a', kvs', e, k2, e2, r2⟩ := h2
      cases e
      have e : kvs = kvs' := by
        rcases k1 with k1 | ⟨o, k1⟩ <;> rcases k2 with k2 | ⟨o', k2⟩
        · rw [k1] at k2; injection k2 with k2; injection k2
        · rw [k1] at k2; cases k2
        · rw [k1] at k2; cases k2
        · rw [k1] at k2; injection k2 with k2; injection k2 with _ k2; injection k2
      subst e
      exact ⟨tks_inj (e1.symm.trans e2), a, kvs, k1, e1, r1, r2⟩
/-- a dict's keys differ -/
def NdK (H : Hp) : Prop := ∀ a kvs, Rd H a (.dK kvs) → (kvs.map (·.1)).Nodup
theorem ndk (I : Inv X pins σ H s) : NdK H := fun a kvs r => by
  obtain ⟨_, _, vs, k, d⟩ := r.ok I.hok
  obtain ⟨_, _, _, _, _, _, _, _, nd⟩ := d
  rw [k.keys]; exact nd
theorem look_at {k : Txt} {y : Val} : ∀ {ks : List Txt} {ys : List Val} {j : Nat}, ks.Nodup → ks[j]? = some k → ys[j]? = some y → look k ks ys = some y
  | [], _, _, _, h, _ => by simp at h
  | _ :: _, [], _, _, _, h => by simp at h
  | a :: ks, b :: ys, 0, _, h1, h2 => by
    simp at h1 h2
    subst h1 h2
    simp [look]
  | a :: ks, b :: ys, j + 1, nd, h1, h2 => by
    simp at h1 h2
    have : a ≠ k := fun e => (List.nodup_cons.mp nd).1 (e ▸ List.mem_of_getElem? h1)
    simp only [look, if_neg this]
    exact look_at (List.nodup_cons.mp nd).2 h1 h2
theorem eqd_same {f : Val → Val → Option Bool} (hf : ∀ x y V b, Rel g ρ H x V → Rel g ρ H y V → f x y = some b → b = true) {ls : List Txt} {ys : List Val} : ∀ (ks : List Txt) (xs : List Val) (b : Bool),
    (∀ (j : Nat) k x, ks[j]? = some k → xs[j]? = some x → ∃ y v, look k ls ys = some y ∧ Rel g ρ H x v ∧ Rel g ρ H y v) → eqd f ls ys ks xs = some b → b = true
  | [], _, b, _, h => by simp only [eqd, Option.some.injEq] at h; exact h.symm
  | _ :: _, [], b, _, h => by simp only [eqd, Option.some.injEq] at h; exact h.symm
  | k :: ks, x :: xs, b, hp, h => by
    obtain ⟨y, v, e, r1, r2⟩ := hp 0 k x rfl rfl
    simp only [eqd, e] at h
    cases q : f x y with
    | none => rw [q] at h; cases h
    | some c =>
      cases q2 : eqd f ls ys ks xs with
      | none => rw [q, q2] at h; cases h
      | some d =>
        rw [q, q2] at h
        simp only [Option.map_some, Option.bind_some, Option.some.injEq] at h
        rw [← h, hf x y v c r1 r2 q, eqd_same hf ks xs d (fun j => hp (j + 1)) q2]; rfl
/-- what stands for one thing is equal -/
theorem eq_same (w : Wd g ρ st H) (ap : Apart g H) (nd : NdK H) : ∀ (n : Nat) (x y : Val) (V : V) (b : Bool), Rel g ρ H x V → Rel g ρ H y V → eqv st n x y = some b → b = true
  | 0, x, y, V, b, _, _, h => by simp [eqv] at h
  | n + 1, x, y, V, b, hx, hy, h => by
    unfold eqv at h
    cases vx : view st x with
    | none => rw [vx] at h; simp at h
    | some S =>
      cases vy : view st y with
      | none => rw [vx, vy] at h; cases S <;> simp at h
      | some T =>
        have sm := vw_cong ap (view_sd w hx vx) (view_sd w hy vy)
        rw [vx, vy] at h
        cases S with
        | flt => cases T with
          | flt => cases h; exact eqf_same hx hy (view_flt vx) (view_flt vy)
          | _ => exact sm.elim
        | tup xs => cases T with
          | tup ys =>
            obtain ⟨vs, r1, r2⟩ := sm
            dsimp only at h
            cases q : eqz (eqv st n) xs ys with
            | none => rw [q] at h; cases h
            | some c =>
              rw [q] at h
              simp only [Option.map_some, Option.some.injEq] at h
              rw [← h, eqz_same (eq_same w ap nd n) xs ys vs c r1 r2 q, r1.length, r2.length]; simp
          | _ => exact sm.elim
        | lst xs => cases T with
          | lst ys =>
            obtain ⟨vs, r1, r2⟩ := sm
            dsimp only at h
            rw [if_pos (by rw [r1.length, r2.length])] at h
            exact eqz_same (eq_same w ap nd n) xs ys vs b r1 r2 h
          | _ => exact sm.elim
        | dct ks xs => cases T with
          | dct ls ys =>
            obtain ⟨rfl, a, kvs, hr, ek, r1, r2⟩ := sm
            dsimp only at h
            rw [if_pos rfl] at h
            have hn : ks.Nodup := by
              have := nd a kvs hr
              rw [ek] at this
              exact (List.pairwise_map.mp this).imp fun h e => h (congrArg _ e)
            refine eqd_same (eq_same w ap nd n) ks xs b (fun j k x hk hx => ?_) h
            obtain ⟨v, hv, rv⟩ := r1.get hx
            obtain ⟨y, hy, ry⟩ := r2.getV hv
            exact ⟨y, v, look_at hn hk hy, rv, ry⟩
          | _ => exact sm.elim
theorem dict_at {P : Program} {W : World} {h : Heap} {a : Addr} {vs : List (Key × Value)} (d : h.DictOf (mixKind P W) a vs) : DictAt h a := by
  obtain ⟨⟨c, dd, dt, sl⟩, es, ep, ho, ⟨hc, hd, hs⟩, hdt, _⟩ := d
  simp only at hc hd hs hdt
  subst hc hd hs hdt
  exact ⟨es, ep, ho⟩
theorem eqDF {a : Addr} {y : Val} {vy : V} {u : Value} (t : DictAt s.heap a) (hy : Rel g ρ H y vy) (ru : RelV vy u) (fy : flat y = true) {A : Around} (hu : A.units < cLine) :
    (EqAt A s (.ref a) u false ∧ RcAt A s (.ref a) u false) ∧ (EqAt A s u (.ref a) false ∧ RcAt A s u (.ref a) false) := by
  rcases flat_sd hy fy with ⟨c, rfl, rfl⟩ | ⟨c, rfl, rfl⟩ | ⟨c, rfl, rfl⟩ | ⟨rfl, rfl⟩
  · cases ru; exact ⟨⟨eq_dict_bool _ t hu, rc_dict_bool _ t hu⟩, ⟨eq_bool_dict _ t hu, rc_bool_dict _ t hu⟩⟩
  · obtain ⟨t', rfl⟩ := ru; exact ⟨⟨eq_dict_int _ _ t hu, rc_dict_int _ _ t hu⟩, ⟨eq_int_dict _ _ t hu, rc_int_dict _ _ t hu⟩⟩
  · obtain ⟨t', rfl⟩ := ru; exact ⟨⟨eq_dict_str _ _ t hu, rc_dict_str _ _ t hu⟩, ⟨eq_str_dict _ _ t hu, rc_str_dict _ _ t hu⟩⟩
  · cases ru; exact ⟨⟨eq_dict_none t hu, rc_dict_none t hu⟩, ⟨eq_none_dict t hu, rc_none_dict t hu⟩⟩
/-- a dict's entries, one by one -/
theorem hits_of {P : Program} {W : World} {A : Around} {f : Val → Val → Option Bool} (hf : ∀ x y vx vy v u b, Rel g ρ H x vx → Rel g ρ H y vy → RelV vx v → RelV vy u → f x y = some b → EqP P W A s v u b)
    {ls : List Txt} {ys : List Val} {kvl : List (Key × V)} {kb : List (Key × Value)} (rl : Rels g ρ H ys (kvl.map (·.2))) (el : kvl.map (·.1) = ls.map tk) (kv : KV kvl kb) :
    ∀ {ks : List Txt} {xs : List Val} {kvs : List (Key × V)} {ka : List (Key × Value)} {b : Bool}, Rels g ρ H xs (kvs.map (·.2)) → kvs.map (·.1) = ks.map tk → KV kvs ka → eqd f ls ys ks xs = some b → PySem.W.KeqHitsP P W A s kb ka b
  | ks, xs, [], ka, b, r, e, k, h => by
    cases k
    have : ks = [] := by cases ks with | nil => rfl | cons _ _ => cases e
    subst this
    simp only [eqd, Option.some.injEq] at h
    subst h
    exact .nil
  | ks, xs, (k0, v0) :: kvs, ka, b, r, e, k, h => by
    cases k with
    | @cons _ q _ qs h1 h2 =>
      obtain ⟨q1, q2⟩ := q
      obtain ⟨hq, hv⟩ := h1
      cases ks with
      | nil => cases e
      | cons k1 ks =>
        simp only [List.map_cons, List.cons.injEq] at e
        cases xs with
        | nil => simp only [Rels, List.map_cons] at r; cases r
        | cons x xs =>
          obtain ⟨v, rr, e2, r1, r2⟩ := r.cons_inv
          simp only [List.map_cons, List.cons.injEq] at e2
          obtain ⟨rfl, rfl⟩ := e2
          have hq : k0 = q1 := hq
          subst hq
          have e0 : k0 = tk k1 := e.1
          subst e0
          simp only [eqd] at h
          cases hl : look k1 ls ys with
          | none =>
            rw [hl] at h
            simp only [Option.some.injEq] at h
            subst h
            have := look_none hl el rl
            have rr : RelO none (valueAt kb (tk k1)) := by rw [← this]; exact kv.val _
            refine .miss ?_
            cases z : valueAt kb (tk k1) with
            | none => rfl
            | some _ => rw [z] at rr; exact rr.elim
          | some y =>
            rw [hl] at h
            obtain ⟨vy, hvy, ry⟩ := look_sd hl el rl
            have rr : RelO (some vy) (valueAt kb (tk k1)) := by rw [← hvy]; exact kv.val _
            obtain ⟨u, hu, ru⟩ := rr.some_of
            dsimp only at h
            cases qf : f x y with
            | none => rw [qf] at h; cases h
            | some c =>
              cases q2' : eqd f ls ys ks xs with
              | none => rw [qf, q2'] at h; cases h
              | some d =>
                rw [qf, q2'] at h
                simp only [Option.map_some, Option.bind_some, Option.some.injEq] at h
                subst h
                exact .hit hu (hf x y v0 vy q2 u c r1 ry hv ru qf) (hits_of hf rl el kv r2 e.2 h2 q2')
/-- == of related values -/
theorem eqA (I : Inv X pins σ H s) (hK : X.K = g.K) (w : Wd g ρ st H) : ∀ (n : Nat) (x y : Val) (vx vy : V) (v u : Value) (b : Bool), Rel g ρ H x vx → Rel g ρ H y vy → RelV vx v → RelV vy u → eqv st n x y = some b →
    ∀ A : Around, A.units + n < cLine → EqP X.prog X.w A s v u b ∧ RcP X.prog X.w A s v u b
  | 0, x, y, vx, vy, v, u, b, _, _, _, _, h => by simp [eqv] at h
  | n + 1, x, y, vx, vy, v, u, b, hx, hy, rv, ru, h => fun A hu => by
    have ap := apart hK I
    have hu' : A.units < cLine := by omega
    have tp : ∀ (xs : List Val) (vx : V) (v : Value), VwR g ρ H (.tup xs) vx → RelV vx v → (∃ a its, v = .ref a ∧ vx = .ref a ∧ s.heap.IsTuple a its ∧ ∃ vs, Rels g ρ H xs vs ∧ Vals vs its.toList) := fun xs vx v hx rv => by
      obtain ⟨a, vs, rfl, h1, h2⟩ := hx
      cases rv
      obtain ⟨its, r, p, _⟩ := I.tuple (hK ▸ sqT_of h1)
      exact ⟨a, its.toArray, rfl, rfl, p, vs, h2, by simpa using r⟩
    have ls : ∀ (xs : List Val) (vx : V) (v : Value), VwR g ρ H (.lst xs) vx → RelV vx v → (∃ a its, v = .ref a ∧ vx = .ref a ∧ s.heap.IsList a its ∧ ∃ vs, Rels g ρ H xs vs ∧ Vals vs its.toList) := fun xs vx v hx rv => by
      obtain ⟨a, vs, rfl, h1, h2⟩ := hx
      cases rv
      obtain ⟨its, r, p, _⟩ := I.list (a := a) (hK ▸ h1)
      exact ⟨a, its.toArray, rfl, rfl, p.isList, vs, h2, by simpa using r⟩
    have dc : ∀ (ks : List Txt) (xs : List Val) (vx : V) (v : Value), VwR g ρ H (.dct ks xs) vx → RelV vx v → (∃ a kvs ka, v = .ref a ∧ vx = .ref a ∧ (a == sysModules) = false ∧ s.heap.DictOf (mixKind X.prog X.w) a ka ∧ KV kvs ka ∧ kvs.map (·.1) = ks.map tk ∧ Rels g ρ H xs (kvs.map (·.2))) := fun ks xs vx v hx rv => by
      obtain ⟨a, kvs, rfl, h1, h2, h3⟩ := hx
      cases rv
      obtain ⟨_, y, ka, k, d⟩ := h1.ok I.hok
      exact ⟨a, kvs, ka, rfl, rfl, y, d, k, h2, h3⟩
    have el : ∀ (xs ys : List Val) (vs us : List L2.V) (is js : Array Value) (e : Nat → Bool), Rels g ρ H xs vs → Rels g ρ H ys us → Vals vs is.toList → Vals us js.toList →
        (∀ (j : Nat) x y, xs[j]? = some x → ys[j]? = some y → eqv st n x y = some (e j)) → ∀ j (h1 : j < is.size) (h2 : j < js.size), EqP X.prog X.w A.in1 s is[j] js[j] (e j) := fun xs ys vs us is js e r1 r2 v1 v2 he j h1 h2 => by
      have l1 := v1.length
      have l2 := v2.length
      simp only [Array.length_toList] at l1 l2
      obtain ⟨a1, ha1⟩ : ∃ a, vs[j]? = some a := ⟨_, List.getElem?_eq_getElem (by omega)⟩
      obtain ⟨a2, ha2⟩ : ∃ a, us[j]? = some a := ⟨_, List.getElem?_eq_getElem (by omega)⟩
      obtain ⟨z1, hz1, q1⟩ := r1.getV ha1
      obtain ⟨z2, hz2, q2⟩ := r2.getV ha2
      obtain ⟨c1, hc1, p1⟩ := v1.get ha1
      obtain ⟨c2, hc2, p2⟩ := v2.get ha2
      have e1 : is[j] = c1 := by simpa [h1] using hc1
      have e2 : js[j] = c2 := by simpa [h2] using hc2
      rw [e1, e2]
      exact (eqA I hK w n z1 z2 a1 a2 c1 c2 (e j) q1 q2 p1 p2 (he j z1 z2 hz1 hz2) A.in1 (by show A.units + 1 + n < cLine; omega)).1
    have fin : ∀ (a a' : Addr), vx = .ref a → vy = .ref a' → v = .ref a → u = .ref a' → RcP X.prog X.w A s v u b → EqP X.prog X.w A s v u b ∧ RcP X.prog X.w A s v u b := fun a a' e1 e2 e3 e4 rc => by
      refine ⟨?_, rc⟩
      subst e1 e2 e3 e4
      by_cases ea : a = a'
      · subst ea
        rw [eq_same w ap (ndk I) (n + 1) x y _ b hx hy h]; exact (EqAt.same _).eqP
      · exact eqP_refs ea rc
    have hh := h
    unfold eqv at h
    cases wx : view st x with
    | none => rw [wx] at h; simp at h
    | some S =>
      cases wy : view st y with
      | none => rw [wx, wy] at h; cases S <;> simp at h
      | some T =>
        have kx := view_sd w hx wx
        have ky := view_sd w hy wy
        rw [wx, wy] at h
        cases S with
        | flt =>
          have fx := view_flt wx
          cases T with
          | flt => cases h; exact both (eqF hx hy rv ru fx (view_flt wy) A)
          | tup ys => cases h; obtain ⟨a', js, rfl, rfl, t2, _⟩ := tp ys vy u ky ru; exact both (eqTF t2 hx rv fx hu').2
          | lst ys => cases h; obtain ⟨a', js, rfl, rfl, t2, _⟩ := ls ys vy u ky ru; exact both (eqLF t2 hx rv fx hu').2
          | dct kl ys => cases h; obtain ⟨a', kvs, ka, rfl, rfl, _, d, _⟩ := dc kl ys vy u ky ru; exact both (eqDF (dict_at d) hx rv fx hu').2
        | tup xs =>
          obtain ⟨a, is, rfl, rfl, t1, vs, r1, v1⟩ := tp xs vx v kx rv
          cases T with
          | flt => cases h; exact both (eqTF t1 hy ru (view_flt wy) hu').1
          | tup ys =>
            obtain ⟨a', js, rfl, rfl, t2, us, r2, v2⟩ := tp ys vy u ky ru
            dsimp only at h
            cases q : eqz (eqv st n) xs ys with
            | none => rw [q] at h; cases h
            | some c =>
              rw [q] at h
              simp only [Option.map_some, Option.some.injEq] at h
              obtain ⟨e, he, hc⟩ := eqz_all xs ys c q
              have l1 := v1.length
              have l2 := v2.length
              simp only [Array.length_toList] at l1 l2
              have rc := rcP_tuples (f := e) t1 t2 hu' (el xs ys vs us is js e r1 r2 v1 v2 he)
              have eb : ((List.range (min is.size js.size)).all e && is.size == js.size) = b := by
                rw [← h, hc, ← l1, ← l2, r1.length, r2.length]
              rw [eb] at rc
              exact fin a a' rfl rfl rfl rfl rc
          | lst ys => cases h; obtain ⟨a', js, rfl, rfl, t2, _⟩ := ls ys vy u ky ru; exact fin a a' rfl rfl rfl rfl (rcP (RcAt.tuple_list t1 t2 hu'))
          | dct kl ys => cases h; obtain ⟨a', kvs, ka, rfl, rfl, _, d, _⟩ := dc kl ys vy u ky ru; exact fin a a' rfl rfl rfl rfl (rcP (rc_tuple_dict (dict_at d) t1 hu'))
        | lst xs =>
          obtain ⟨a, is, rfl, rfl, t1, vs, r1, v1⟩ := ls xs vx v kx rv
          cases T with
          | flt => cases h; exact both (eqLF t1 hy ru (view_flt wy) hu').1
          | tup ys => cases h; obtain ⟨a', js, rfl, rfl, t2, _⟩ := tp ys vy u ky ru; exact fin a a' rfl rfl rfl rfl (rcP (RcAt.list_tuple t1 t2 hu'))
          | lst ys =>
            obtain ⟨a', js, rfl, rfl, t2, us, r2, v2⟩ := ls ys vy u ky ru
            dsimp only at h
            have l1 := v1.length
            have l2 := v2.length
            simp only [Array.length_toList] at l1 l2
            split at h
            · rename_i hl
              obtain ⟨e, he, hc⟩ := eqz_all xs ys b h
              have rc : RcP X.prog X.w A s (.ref a) (.ref a') ((List.range is.size).all e) := rcP_lists (e := e) t1 t2 (by rw [← l1, ← l2, ← r1.length, ← r2.length]; exact hl) hu' (el xs ys vs us is js e r1 r2 v1 v2 he)
              refine fin a a' rfl rfl rfl rfl ?_
              rw [hc, ← hl, Nat.min_self, r1.length, l1]; exact rc
            · rename_i hl
              cases h
              refine fin a a' rfl rfl rfl rfl (rcP (RcAt.lists_lengths t1 t2 ?_ hu'))
              rw [← l1, ← l2, ← r1.length, ← r2.length]
              simpa using hl
          | dct kl ys => cases h; obtain ⟨a', kvs, ka, rfl, rfl, _, d, _⟩ := dc kl ys vy u ky ru; exact fin a a' rfl rfl rfl rfl (rcP (rc_list_dict (dict_at d) t1 hu'))
        | dct kk xs =>
          obtain ⟨a, kvs, ka, rfl, rfl, ya, da, kva, ea, ra⟩ := dc kk xs vx v kx rv
          cases T with
          | flt => cases h; exact both (eqDF (dict_at da) hy ru (view_flt wy) hu').1
          | tup ys => cases h; obtain ⟨a', js, rfl, rfl, t2, _⟩ := tp ys vy u ky ru; exact fin a a' rfl rfl rfl rfl (rcP (rc_dict_tuple (dict_at da) t2 hu'))
          | lst ys => cases h; obtain ⟨a', js, rfl, rfl, t2, _⟩ := ls ys vy u ky ru; exact fin a a' rfl rfl rfl rfl (rcP (rc_dict_list (dict_at da) t2 hu'))
          | dct kl ys =>
            obtain ⟨a', kvl, kb, rfl, rfl, yb, db, kvb, eb, rb⟩ := dc kl ys vy u ky ru
            dsimp only at h
            have l1 : ka.length = kk.length := by
              have := congrArg List.length ea
              simp only [List.length_map] at this
              rw [← this, kva.length]
            have l2 : kb.length = kl.length := by
              have := congrArg List.length eb
              simp only [List.length_map] at this
              rw [← this, kvb.length]
            split at h
            · rename_i hl
              have hits := hits_of (P := X.prog) (W := X.w) (A := A.in1) (fun x y vx vy v u b h1 h2 h3 h4 h5 => (eqA I hK w n x y vx vy v u b h1 h2 h3 h4 h5 A.in1 (by show A.units + 1 + n < cLine; omega)).1) rb eb kvb ra ea kva h
              refine fin a a' rfl rfl rfl rfl fun E Q q => PySem.W.rcP_dicts (knd := mixKind X.prog X.w) ya yb da db hu' (fun _ => hits) E Q ?_
              rw [l1, l2, hl]; simpa using q
            · rename_i hl
              cases h
              refine fin a a' rfl rfl rfl rfl fun E Q q => PySem.W.rcP_dicts (knd := mixKind X.prog X.w) (r := true) ya yb da db hu' (fun e => absurd (by rw [← l1, ← l2]; exact e) hl) E Q ?_
              have z : (kk.length == kl.length) = false := by simpa using hl
              rw [l1, l2, z]; exact q
end
end Mi
namespace Mi
open PySem L2 PySem.SeqAt PyProof.Rows

def R2v (g : Gd) (f : Store → Val → Val → Option Val) : R2 := fun x y H Q => ∃ ρ st a b v, Wd g ρ st H ∧ Rel g ρ H a x ∧ Rel g ρ H b y ∧ f st a b = some v ∧
  ∀ ρ' H', Ext ρ H ρ' H' → Wd g ρ' st H' → ∀ V, Rel g ρ' H' v V → Q V H'
def bo : BO → Operator
  | .add => .Add | .sub => .Sub | .mul => .Mult | .fdiv => .FloorDiv | .mod => .Mod | .pow => .Pow
def co : CO → CmpOp
  | .eq => .Eq | .ne => .NotEq | .lt => .Lt | .le => .LtE | .gt => .Gt | .ge => .GtE | .isin => .In | .notin => .NotIn

section
variable {X : Cx} {g : Gd} {ρ : List Addr} {H : Hp} {st : Store}
theorem op_catR : OpR X (binaryOp .Add) (fun x y H Q => ∃ l b xs zs, x = .ref l ∧ y = .ref b ∧ SqL X.K H l xs ∧ SqL X.K H b zs ∧ xs.length + zs.length ≤ sizeLine ∧ ∀ p, H p = none → Q (.ref p) (upd H p (.lst (xs ++ zs)))) := by
  intro pins s σ H x y v u Q I rx ry h
  obtain ⟨l, b, xs, zs, rfl, rfl, hA, hB, hz, q⟩ := h
  cases rx
  cases ry
  obtain ⟨is, r, ⟨oa, n, e, c1, d1, f1⟩, _⟩ := I.list hA
  obtain ⟨js, r2, ⟨ob, m, e2, c2, d2, f2⟩, _⟩ := I.list hB
  have hl := r.length
  have hl2 := r2.length
  obtain ⟨oc, od, dt, osl⟩ := oa
  obtain ⟨oc', od', dt', osl'⟩ := ob
  simp only at c1 d1 f1 c2 d2 f2
  subst c1 d1 f1 c2 d2 f2
  refine concat_meets ⟨_, e, rfl⟩ ⟨_, e2, rfl⟩ noFill_list_add seq_list_add PySem.F.slot_list_add PySem.F.entry_list_add (PySem.F.args_list_add_2 _ _) (list_addW l b is.toArray js.toArray n m none none osl osl' (by simp only [List.size_toArray]; omega)) ⟨e, e2, ?_⟩
  rw [show is.toArray ++ js.toArray = (is ++ js).toArray by simp]
  exact ⟨.ref _, _, I.lnew (t' := s.toks) (r.append r2) (by rw [List.length_append]; omega), rfl, q _ I.fresh⟩

theorem log200 {j : Int} (h0 : 0 < j) (h : j < 2 ^ 200) : j.natAbs.log2 < 9000 := by
  have h1 : j.natAbs < 2 ^ 200 := by omega
  have h2 := (Nat.log2_lt (n := j.natAbs) (k := 200) (by omega)).mpr h1
  omega
theorem abs63 {j : Int} (h0 : -(2 ^ 63) < j) (h : j < 2 ^ 63) : j.natAbs < 2 ^ 64 := by omega
theorem rep_cps (x : Array Nat) : ∀ (n : Nat) (acc : Array Nat), (List.replicate n x).foldl (· ++ ·) acc = acc ++ (repT x.toList n).toArray
  | 0, acc => by simp [repT]
  | n + 1, acc => by
    rw [List.replicate_succ, List.foldl_cons, rep_cps x n (acc ++ x), repT, Array.append_assoc]
    congr 1
    apply Array.toList_inj.mp
    simp
theorem rep_len (s : Txt) : ∀ n : Nat, (repT s n).length = s.length * n
  | 0 => by simp [repT]
  | n + 1 => by rw [repT, List.length_append, rep_len s n, Nat.mul_succ]; omega
theorem mul_txt (s : Txt) (j : Int) (h0 : 0 ≤ j) : PySem.Txt.mul (tx s) j = tx (repT s j.toNat) := by
  unfold PySem.Txt.mul
  by_cases h1 : j < 1
  · rw [if_pos h1]
    have : j = 0 := by omega
    subst this; rfl
  · rw [if_neg h1]
    split
    · rename_i hc
      simp only [Bool.or_eq_true, beq_iff_eq] at hc
      rcases hc with hc | hc
      · subst hc; simp [repT, tx]
      · have : s = [] := by
          rw [tx_len] at hc
          exact List.length_eq_zero_iff.mp hc
        subst this
        have : ∀ n, repT ([] : Txt) n = [] := fun n => by
          induction n with
          | zero => rfl
          | succ n ih => rw [repT, ih]; rfl
        rw [this]
    · show (⟨(List.replicate j.toNat (tx s).cps).foldl (· ++ ·) #[]⟩ : Str) = _
      rw [rep_cps]
      simp [tx]
theorem mulOk {s : Txt} {j : Int} (h0 : 0 ≤ j) (h1 : j < 2 ^ 24) (h2 : s.length * j.toNat ≤ 16777216) : MulOk (tx s) j := by
  refine ⟨?_, fun h3 _ => ?_, fun _ _ => ?_⟩
  · rw [decide_eq_false (by omega), decide_eq_false (by omega)]; rfl
  · rw [tx_len]
    have hj : 1 ≤ j := by omega
    have hs : s.length ≤ 16777216 := by
      have : s.length * 1 ≤ s.length * j.toNat := Nat.mul_le_mul_left _ (by omega)
      omega
    have : (549755813887 : Int) ≤ (2 ^ 63 - 1) / j := by
      rw [Int.le_ediv_iff_mul_le (by omega)]
      omega
    omega
  · rw [tx_len]
    unfold Builtin.Str.tooLong
    have e : sizeLine = 16777216 := by decide
    rw [e]
    simpa using h2
theorem op_mulS : OpR X (binaryOp .Mult) (fun x y H Q => ∃ s j, x = .str (tx s) ∧ y = .int j ∧ 0 ≤ j ∧ j < 2 ^ 24 ∧ s.length * j.toNat ≤ 16777216 ∧ Q (.str (tx (repT s j.toNat))) H) := by
  intro pins s σ H x y v u Q I rx ry h
  obtain ⟨z, j, rfl, rfl, h0, h1, h2, q⟩ := h
  obtain ⟨t, rfl⟩ := rx
  obtain ⟨t', rfl⟩ := ry
  refine SB.mul (mulOk h0 h1 h2) fun t2 k => ?_
  rw [mul_txt _ _ h0]
  exact ⟨.str _, H, I.tok _, ⟨_, rfl⟩, q⟩

theorem opB (hK : X.K = g.K) (o : BO) : OpR X (binaryOp (bo o)) (R2v g fun st => binV st o) := by
  intro pins s σ H x y v u Q I rx ry h
  obtain ⟨ρ, st, a, b, z, w, ra, rb, hz, q⟩ := h
  have fin : ∀ V, Rel g ρ H z V → Q V H := fun V r => q ρ H Ext.refl w V r
  cases o with
  | add =>
    simp only [binV] at hz
    obtain ⟨a', ea⟩ : ∃ x', a = x' := ⟨a, rfl⟩
    obtain ⟨b', eb⟩ : ∃ y', b = y' := ⟨b, rfl⟩
    unfold addV at hz
    split at hz
    · simp only [Rel] at ra rb; subst ra; subst rb; cases hz
      exact op_add pins s σ H _ _ v u Q I rx ry ⟨_, _, rfl, rfl, fin _ rel_int⟩
    · simp only [Rel] at ra rb; obtain ⟨rfl, _⟩ := ra; obtain ⟨rfl, _⟩ := rb
      split at hz
      · rename_i hl
        cases hz
        refine op_add_str pins s σ H _ _ v u Q I rx ry ⟨_, _, rfl, rfl, by rw [tx_len, tx_len]; exact hl, ?_⟩
        rw [tx_app]; exact fin _ (rel_str (by rw [List.length_append]; exact hl))
      · cases hz
    · rename_i xs ys
      split at hz
      · rename_i hl
        cases hz
        obtain ⟨p, vs, rfl, h1, _, h2⟩ := tup_sd ra
        obtain ⟨p', us, rfl, k1, _, k2⟩ := tup_sd rb
        have e1 := h2.length
        have e2 := k2.length
        refine op_catA pins s σ H _ _ v u Q I rx ry ⟨p, p', vs, us, rfl, rfl, hK ▸ h1, hK ▸ k1, by omega, fun hn => ?_, fun _ hn => ?_, fun _ _ r hr => ?_⟩
        · have : xs = [] := by
            cases xs with
            | nil => rfl
            | cons _ _ => rw [hn] at e1; cases e1
          subst this
          exact fin _ rb
        · have : ys = [] := by
            cases ys with
            | nil => rfl
            | cons _ _ => rw [hn] at e2; cases e2
          subst this
          rw [List.append_nil] at fin
          exact fin _ ra
        · exact q ρ _ (Ext.new hr) (w.new hr) _ (newT w (h2.append k2) (by rw [List.length_append]; exact hl) hr)
      · cases hz
    · rw [ea, eb] at hz
      rw [ea] at ra
      rw [eb] at rb
      generalize a' = a at *
      generalize b' = b at *
      cases q1 : asL st a with
      | none => rw [q1] at hz; cases hz
      | some xs =>
        cases q2 : asL st b with
        | none => rw [q1, q2] at hz; cases hz
        | some ys =>
          rw [q1, q2] at hz
          simp only [Option.bind_some] at hz
          split at hz
          · rename_i hl
            cases hz
            obtain ⟨p, vs, rfl, h1, _, h2⟩ := asL_sd w ra q1
            obtain ⟨p', us, rfl, k1, _, k2⟩ := asL_sd w rb q2
            refine thn (op_catR pins s σ H _ _ v u (Sh Q) I rx ry ⟨p, p', vs, us, rfl, rfl, hK ▸ h1, hK ▸ k1, by rw [← h2.length, ← k2.length]; exact hl, fun r hr => ?_⟩) fun _ _ z => EP.sh z
            exact shL w (h2.append k2) (by rw [List.length_append]; exact hl) q hr
          · cases hz
  | sub =>
    cases a <;> cases b <;> simp only [binV, reduceCtorEq, Option.some.injEq] at hz
    subst hz
    simp only [Rel] at ra rb; subst ra; subst rb
    exact op_sub pins s σ H _ _ v u Q I rx ry ⟨_, _, rfl, rfl, fin _ rel_int⟩
  | mul =>
    cases a <;> cases b <;> simp only [binV, reduceCtorEq] at hz
    split at hz
    · rename_i hc
      cases hz
      simp only [Rel] at ra rb; subst ra; subst rb
      exact op_mul pins s σ H _ _ v u Q I rx ry ⟨_, _, rfl, rfl, hc, fin _ rel_int⟩
    · cases hz
    split at hz
    · rename_i hc
      cases hz
      simp only [Rel] at ra rb; obtain ⟨rfl, _⟩ := ra; subst rb
      exact op_mulS pins s σ H _ _ v u Q I rx ry ⟨_, _, rfl, rfl, hc.1, hc.2.1, hc.2.2, fin _ (rel_str (by rw [rep_len]; exact Nat.le_trans hc.2.2 (by decide)))⟩
    · cases hz
  | fdiv =>
    cases a <;> cases b <;> simp only [binV, reduceCtorEq] at hz
    split at hz
    · rename_i hc
      cases hz
      simp only [Rel] at ra rb; subst ra; subst rb
      exact op_fdivW pins s σ H _ _ v u Q I rx ry ⟨_, _, rfl, rfl, ⟨hc.1, log200 hc.1 hc.2⟩, fin _ rel_int⟩
    · cases hz
  | mod =>
    cases a <;> cases b <;> simp only [binV, reduceCtorEq] at hz
    split at hz
    · rename_i hc
      cases hz
      simp only [Rel] at ra rb; subst ra; subst rb
      exact op_mod pins s σ H _ _ v u Q I rx ry ⟨_, _, rfl, rfl, hc, fin _ rel_int⟩
    · cases hz
  | pow =>
    cases a <;> cases b <;> simp only [binV, reduceCtorEq] at hz
    split at hz
    · rename_i hc
      cases hz
      simp only [Rel] at ra rb; subst ra; subst rb
      exact op_pow pins s σ H _ _ v u Q I rx ry ⟨_, _, rfl, rfl, ⟨hc.1, hc.2.1, abs63 hc.2.2.1 hc.2.2.2⟩, fin _ rel_int⟩
    · cases hz
end
end Mi
namespace Mi
open PySem L2 PySem.SeqAt

section
variable {X : Cx} {g : Gd} {ρ : List Addr} {H : Hp} {st : Store} {pins : List (Addr × Obj)} {σ : St} {s : Shared}
theorem eqz_cong {f : Val → Val → Option Bool} (hf : ∀ x y z V b c, Rel g ρ H x V → Rel g ρ H y V → f x z = some b → f y z = some c → b = c) :
    ∀ (xs ys zs : List Val) (vs : List V) (b c : Bool), Rels g ρ H xs vs → Rels g ρ H ys vs → eqz f xs zs = some b → eqz f ys zs = some c → b = c
  | [], ys, zs, vs, b, c, h1, h2, e1, e2 => by
    simp only [Rels] at h1; subst h1
    have := h2.length
    cases ys with
    | nil => rw [e1] at e2; exact Option.some.inj e2
    | cons _ _ => cases this
  | x :: xs, ys, zs, vs, b, c, h1, h2, e1, e2 => by
    obtain ⟨v, r, rfl, a1, a2⟩ := h1.cons_inv
    cases ys with
    | nil => simp only [Rels] at h2; cases h2
    | cons y ys =>
      obtain ⟨v', r', e, b1, b2⟩ := h2.cons_inv
      cases e
      cases zs with
      | nil =>
        simp only [eqz, Option.some.injEq] at e1 e2
        rw [← e1, ← e2]
      | cons z zs =>
        simp only [eqz] at e1 e2
        cases q1 : f x z with
        | none => rw [q1] at e1; cases e1
        | some p =>
          cases q2 : eqz f xs zs with
          | none => rw [q1, q2] at e1; cases e1
          | some q =>
            cases q3 : f y z with
            | none => rw [q3] at e2; cases e2
            | some p' =>
              cases q4 : eqz f ys zs with
              | none => rw [q3, q4] at e2; cases e2
              | some q' =>
                rw [q1, q2] at e1
                rw [q3, q4] at e2
                simp only [Option.map_some, Option.bind_some, Option.some.injEq] at e1 e2
                rw [← e1, ← e2, hf x y z v p p' a1 b1 q1 q3, eqz_cong hf xs ys zs r q q' a2 b2 q2 q4]
theorem asL_cong (w : Wd g ρ st H) (ap : Apart g H) {x y : Val} {V : V} {us ts : List Val} (hx : Rel g ρ H x V) (hy : Rel g ρ H y V) (e1 : asL st x = some us) (e2 : asL st y = some ts) : ∃ vs, Rels g ρ H us vs ∧ Rels g ρ H ts vs := by
  obtain ⟨a1, v1, q1, h1, _, r1⟩ := asL_sd w hx e1
  obtain ⟨a2, v2, q2, h2, _, r2⟩ := asL_sd w hy e2
  subst q1; cases q2
  have e : v1 = v2 := by
    rcases h1 with (h1 | ⟨o, h1⟩) | h1 <;> rcases h2 with (h2 | ⟨o', h2⟩) | h2
    · rw [h1] at h2; injection h2 with h2; injection h2
    · rw [h1] at h2; cases h2
    · rw [klst_none ap h2] at h1; cases h1
    · rw [h1] at h2; cases h2
    · rw [h1] at h2; injection h2 with h2; injection h2 with _ h2; injection h2
    · rw [klst_none ap h2] at h1; cases h1
    · rw [klst_none ap h1] at h2; cases h2
    · rw [klst_none ap h1] at h2; cases h2
    · exact klst_inj h1 h2
  subst e
  exact ⟨v1, r1, r2⟩
theorem tup_cong (ap : Apart g H) {xs ys : List Val} {V : V} (hx : Rel g ρ H (.tup xs) V) (hy : Rel g ρ H (.tup ys) V) : ∃ vs, Rels g ρ H xs vs ∧ Rels g ρ H ys vs := by
  simp only [Rel] at hx hy
  obtain ⟨a1, v1, q1, h1, _, r1⟩ := hx
  obtain ⟨a2, v2, q2, h2, _, r2⟩ := hy
  subst q1; cases q2
  have e : v1 = v2 := by
    rcases h1 with h1 | h1 <;> rcases h2 with h2 | h2
    · rw [h1] at h2; injection h2 with h2; injection h2
    · rw [ktup_none ap h2] at h1; cases h1
    · rw [ktup_none ap h1] at h2; cases h2
    · exact ktup_inj h1 h2
  subst e
  exact ⟨v1, r1, r2⟩
theorem tup_lst (w : Wd g ρ st H) (ap : Apart g H) {ts us : List Val} {z : Val} {V : V} (h1 : Rel g ρ H (.tup ts) V) (h2 : Rel g ρ H z V) (e : asL st z = some us) : False := by
  simp only [Rel] at h1
  obtain ⟨a, vs, e1, h3, _⟩ := h1
  subst e1
  obtain ⟨a', vs', e1, h4, _⟩ := asL_sd w h2 e
  cases e1
  rcases h3 with h3 | h3 <;> rcases h4 with (h4 | ⟨o, h4⟩) | h4
  · rw [h3] at h4; cases h4
  · rw [h3] at h4; cases h4
  · rw [klst_none ap h4] at h3; cases h3
  · rw [ktup_none ap h3] at h4; cases h4
  · rw [ktup_none ap h3] at h4; cases h4
  · exact ktup_klst h3 h4
theorem flat_cong {x y : Val} {V : V} (hx : Rel g ρ H x V) (hy : Rel g ρ H y V) (fx : flat x = true) : x = y := by
  cases x <;> first | (exact nomatch (show false = true from fx)) | skip
  all_goals simp only [Rel] at hx
  all_goals first | subst hx | obtain ⟨rfl, _⟩ := hx
  all_goals cases y <;> simp [Rel] at hy ⊢
  all_goals first | exact hy | exact tx_inj hy.1
theorem eqd_cong {f : Val → Val → Option Bool} {ls : List Txt} {zs : List Val} (hf : ∀ x y z V b c, Rel g ρ H x V → Rel g ρ H y V → f x z = some b → f y z = some c → b = c) : ∀ (ks : List Txt) (xs ys : List Val) (vs : List V) (b c : Bool),
    Rels g ρ H xs vs → Rels g ρ H ys vs → eqd f ls zs ks xs = some b → eqd f ls zs ks ys = some c → b = c
  | [], xs, ys, vs, b, c, _, _, e1, e2 => by
    simp only [eqd, Option.some.injEq] at e1 e2
    rw [← e1, ← e2]
  | k :: ks, [], ys, vs, b, c, r1, r2, e1, e2 => by
    simp only [Rels] at r1
    subst r1
    cases ys with
    | nil =>
      simp only [eqd, Option.some.injEq] at e1 e2
      rw [← e1, ← e2]
    | cons y ys => obtain ⟨_, _, e, _⟩ := r2.cons_inv; cases e
  | k :: ks, x :: xs, ys, vs, b, c, r1, r2, e1, e2 => by
    obtain ⟨v, r, rfl, a1, a2⟩ := r1.cons_inv
    cases ys with
    | nil => simp only [Rels] at r2; cases r2
    | cons y ys =>
      obtain ⟨v', r', e, b1, b2⟩ := r2.cons_inv
      cases e
      simp only [eqd] at e1 e2
      cases q : look k ls zs with
      | none =>
        rw [q] at e1 e2
        rw [e1] at e2; exact Option.some.inj e2
      | some z =>
        rw [q] at e1 e2
        dsimp only at e1 e2
        cases p1 : f x z with
        | none => rw [p1] at e1; cases e1
        | some c1 =>
          cases p2 : f y z with
          | none => rw [p2] at e2; cases e2
          | some c2 =>
            cases p3 : eqd f ls zs ks xs with
            | none => rw [p1, p3] at e1; cases e1
            | some d1 =>
              cases p4 : eqd f ls zs ks ys with
              | none => rw [p2, p4] at e2; cases e2
              | some d2 =>
                rw [p1, p3] at e1
                rw [p2, p4] at e2
                simp only [Option.map_some, Option.bind_some, Option.some.injEq] at e1 e2
                rw [← e1, ← e2, hf x y z v c1 c2 a1 b1 p1 p2, eqd_cong hf ks xs ys r d1 d2 a2 b2 p3 p4]
/-- the same thing gives the same answer -/
theorem eq_cong (w : Wd g ρ st H) (ap : Apart g H) : ∀ (n : Nat) (x y z : Val) (V : V) (b c : Bool), Rel g ρ H x V → Rel g ρ H y V → eqv st n x z = some b → eqv st n y z = some c → b = c
  | 0, x, y, z, V, b, c, _, _, e1, _ => by simp [eqv] at e1
  | n + 1, x, y, z, V, b, c, hx, hy, e1, e2 => by
    by_cases fx : flat x = true
    · have := flat_cong hx hy fx
      subst this
      rw [e1] at e2; exact Option.some.inj e2
    by_cases fy : flat y = true
    · have := flat_cong hy hx fy
      subst this
      exact absurd fy fx
    unfold eqv at e1 e2
    cases vx : view st x with
    | none => rw [vx] at e1; simp at e1
    | some S =>
      cases vy : view st y with
      | none => rw [vy] at e2; simp at e2
      | some T =>
        cases vz : view st z with
        | none => rw [vx, vz] at e1; cases S <;> simp at e1
        | some U =>
          have sm := vw_cong ap (view_sd w hx vx) (view_sd w hy vy)
          rw [vx, vz] at e1
          rw [vy, vz] at e2
          cases S with
          | flt => exact absurd (view_flt vx) fx
          | tup xs => cases T with
            | tup ys =>
              obtain ⟨vs, r1, r2⟩ := sm
              cases U with
              | tup zs =>
                dsimp only at e1 e2
                cases q1 : eqz (eqv st n) xs zs with
                | none => rw [q1] at e1; cases e1
                | some p =>
                  cases q2 : eqz (eqv st n) ys zs with
                  | none => rw [q2] at e2; cases e2
                  | some q =>
                    rw [q1] at e1
                    rw [q2] at e2
                    simp only [Option.map_some, Option.some.injEq] at e1 e2
                    rw [← e1, ← e2, eqz_cong (eq_cong w ap n) xs ys zs vs p q r1 r2 q1 q2, r1.length, r2.length]
              | _ => cases e1; cases e2; rfl
            | _ => exact sm.elim
          | lst xs => cases T with
            | lst ys =>
              obtain ⟨vs, r1, r2⟩ := sm
              cases U with
              | lst zs =>
                dsimp only at e1 e2
                rw [r1.length] at e1
                rw [r2.length] at e2
                split at e1
                · rename_i hl
                  rw [if_pos hl] at e2
                  exact eqz_cong (eq_cong w ap n) xs ys zs vs b c r1 r2 e1 e2
                · rename_i hl
                  rw [if_neg hl] at e2
                  rw [e1] at e2; exact Option.some.inj e2
              | _ => cases e1; cases e2; rfl
            | _ => exact sm.elim
          | dct ks xs => cases T with
            | dct ls ys =>
              obtain ⟨rfl, a, kvs, hr, ek, r1, r2⟩ := sm
              cases U with
              | dct lz zs =>
                dsimp only at e1 e2
                split at e1
                · rename_i hl
                  rw [if_pos hl] at e2
                  exact eqd_cong (eq_cong w ap n) ks xs ys _ b c r1 r2 e1 e2
                · rename_i hl
                  rw [if_neg hl] at e2
                  rw [e1] at e2; exact Option.some.inj e2
              | _ => cases e1; cases e2; rfl
            | _ => exact sm.elim
open Classical in
theorem in_sd (I : Inv X pins σ H s) (hK : X.K = g.K) (w : Wd g ρ st H) {x0 : Val} {v0 : V} {u0 : Value} (h0 : Rel g ρ H x0 v0) (r0 : RelV v0 u0) {A : Around} (hu : A.units + 60 < cLine) :
    ∃ e : Value → Bool, ∀ (xs : List Val) (vs : List V) (us : List Value) (b : Bool), Rels g ρ H xs vs → Vals vs us → inV' st x0 xs = some b → (∀ y ∈ us, EqP X.prog X.w A s y u0 (e y)) ∧ us.any e = b := by
  have ap := apart hK I
  refine ⟨fun y => decide (∃ x v, Rel g ρ H x v ∧ RelV v y ∧ eqv st 60 x x0 = some true), ?_⟩
  intro xs
  induction xs with
  | nil =>
    intro vs us b hr hv h
    simp only [Rels] at hr; subst hr
    cases hv
    simp only [inV', Option.some.injEq] at h
    exact ⟨fun _ z => (List.not_mem_nil z).elim, h⟩
  | cons x xs ih =>
    intro vs us b hr hv h
    obtain ⟨v, r, rfl, h1, h2⟩ := hr.cons_inv
    cases hv with
    | @cons _ u _ us' a1 a2 =>
      simp only [inV'] at h
      cases q1 : eqv st 60 x x0 with
      | none => rw [q1] at h; cases h
      | some c =>
        cases q2 : inV' st x0 xs with
        | none => rw [q1, q2] at h; cases h
        | some d =>
          rw [q1, q2] at h
          simp only [Option.bind_some, Option.map_some, Option.some.injEq] at h
          obtain ⟨k1, k2⟩ := ih r us' d h2 a2 q2
          have e1 : decide (∃ x v, Rel g ρ H x v ∧ RelV v u ∧ eqv st 60 x x0 = some true) = c := by
            cases c with
            | true => exact decide_eq_true ⟨x, v, h1, a1, q1⟩
            | false =>
              refine decide_eq_false ?_
              rintro ⟨x', v', z1, z2, z3⟩
              have ev := RelV.inj z2 a1
              subst ev
              exact nomatch (eq_cong w ap 60 x' x x0 v' true false z1 h1 z3 q1)
          refine ⟨fun y hy => ?_, ?_⟩
          · rcases List.mem_cons.mp hy with rfl | hy
            · show EqP X.prog X.w A s y u0 (decide _)
              rw [e1]
              exact (eqA I hK w 60 x x0 v v0 y u0 c h1 h0 a1 r0 q1 A hu).1
            · exact k1 y hy
          · rw [List.any_cons, k2, ← h]
            congr 1
theorem Rels.keys {ks : List Txt} {xs : List Val} {kvs : List (Key × V)} (e : kvs.map (·.1) = ks.map tk) (r : Rels g ρ H xs (kvs.map (·.2))) (k : Txt) : (look k ks xs).isSome = (valV kvs (tk k)).isSome := by
  cases q : look k ks xs with
  | none => rw [look_none q e r]; rfl
  | some x => obtain ⟨v, h, _⟩ := look_sd q e r; rw [h]; rfl
end

section
variable {X : Cx} {g : Gd}
theorem opIn (hK : X.K = g.K) (hu : X.A.units + 64 < cLine) (neg : Bool) : OpR X (compareOp (if neg then .NotIn else .In)) (R2v g fun st a b => (isinV st a b).map fun k => .bl (if neg then !k else k)) := by
  intro pins s σ H x y v u Q I rx ry h
  obtain ⟨ρ, st, a, b, z, w, ra, rb, hz, q⟩ := h
  have fin : ∀ V, Rel g ρ H z V → Q V H := fun V r => q ρ H Ext.refl w V r
  simp only at hz
  cases hk : isinV st a b with
  | none => rw [hk] at hz; cases hz
  | some k =>
    rw [hk] at hz
    simp only [Option.map_some, Option.some.injEq] at hz
    subst hz
    have ok : EP X pins σ Q (.bool (if neg then !k else k)) s := ⟨.bl _, H, I, rfl, fin _ rel_bl⟩
    have hu1 : X.A.in1.units + 60 < cLine := by show X.A.units + 1 + 60 < cLine; omega
    -- a list or a tuple
    have sq : ∀ (xs : List Val) (p : Addr) (vs : List V), y = .ref p → Rels g ρ H xs vs → (SqL X.K H p vs ∨ SqT X.K H p vs) → inV' st a xs = some k → wpAny (model X.prog X.w) X.A (compareOp (if neg then .NotIn else .In) v u) (EP X pins σ Q) X.xe s := by
      intro xs p vs e hr hs hi
      subst e
      cases ry
      obtain ⟨e, he⟩ := in_sd I hK w ra rx (A := X.A.in1) hu1
      rcases hs with hs | hs
      · obtain ⟨us, rv, pl, _⟩ := I.list hs
        obtain ⟨k1, k2⟩ := he xs vs us k hr rv hi
        exact inP_list neg e pl.isList (fun y hy => k1 y (by simpa using hy)) (by rw [List.any_toArray, k2]; exact ok)
      · obtain ⟨us, rv, pl, _⟩ := I.tuple hs
        obtain ⟨k1, k2⟩ := he xs vs us k hr rv hi
        exact inP_tuple neg e pl (fun y hy => k1 y (by simpa using hy)) (by rw [List.any_toArray, k2]; exact ok)
    have dd : ∀ (ks : List Txt) (xs : List Val) (p : Addr) (kvs : List (Key × V)), y = .ref p → Rd H p (.dK kvs) → kvs.map (·.1) = ks.map tk → Rels g ρ H xs (kvs.map (·.2)) → ((keyOf a).map fun k => (look k ks xs).isSome) = some k →
        wpAny (model X.prog X.w) X.A (compareOp (if neg then .NotIn else .In) v u) (EP X pins σ Q) X.xe s := by
      intro ks xs p kvs e hd hk hr hi
      subst e
      cases ry
      cases qk : keyOf a with
      | none => rw [qk] at hi; cases hi
      | some kk =>
        rw [qk] at hi
        simp only [Option.map_some, Option.some.injEq] at hi
        obtain ⟨ev, _⟩ := key_sd ra qk
        subst ev
        have dg : DGet H p (kV (tk kk)) (valV kvs (tk kk)) := .inl ⟨kvs, tk kk, hd, rfl, rfl⟩
        rw [Rels.keys hk hr] at hi
        have ok2 : ∀ s', Inv X pins σ H s' → EP X pins σ Q (.bool (if neg then !k else k)) s' := fun s' I' => ⟨.bl _, H, I', rfl, fin _ rel_bl⟩
        cases neg with
        | true => exact d_notIn (by omega) I dg rx fun s' I' => by rw [hi]; exact ok2 s' I'
        | false => exact d_in (by omega) I dg rx fun s' I' => by rw [hi]; exact ok2 s' I'
    cases b with
    | str z =>
      simp only [isinV] at hk
      split at hk
      · rename_i c
        simp only [Option.some.injEq] at hk
        simp only [Rel] at ra rb
        obtain ⟨rfl, _⟩ := ra
        obtain ⟨rfl, _⟩ := rb
        have ok3 : Q (.bl (if neg then !k else k)) H := fin _ rel_bl
        have ex : tx [c] = ⟨#[c]⟩ := rfl
        rw [ex] at rx
        cases neg with
        | true => exact op_notIn_sign pins s σ H _ _ v u Q I rx ry ⟨c, tx z, rfl, rfl, by rw [tx_list, hk]; exact ok3⟩
        | false => exact op_in_sign pins s σ H _ _ v u Q I rx ry ⟨c, tx z, rfl, rfl, by rw [tx_list, hk]; exact ok3⟩
      · cases hk
    | tup xs =>
      obtain ⟨p, vs, e, h1, _, h2⟩ := tup_sd rb
      exact sq xs p vs e h2 (.inr (hK ▸ h1)) hk
    | lst xs =>
      obtain ⟨p, vs, e, h1, _, h2⟩ := asL_sd w rb rfl
      exact sq xs p vs e h2 (.inl (hK ▸ h1)) hk
    | dct ks xs =>
      obtain ⟨p, kvs, e, h1, _, ⟨h2, _⟩, h3⟩ := asD_sd w rb rfl
      exact dd ks xs p kvs e h1 h2 h3 hk
    | loc n =>
      simp only [isinV] at hk
      cases qn : st[n]? with
      | none => rw [qn] at hk; cases hk
      | some ob =>
        rw [qn] at hk
        cases ob with
        | lst xs =>
          obtain ⟨p, vs, e, h1, _, h2⟩ := asL_sd w rb (xs := xs) (by simp [asL, qn])
          exact sq xs p vs e h2 (.inl (hK ▸ h1)) hk
        | dct ks xs =>
          obtain ⟨p, kvs, e, h1, _, ⟨h2, _⟩, h3⟩ := asD_sd w rb (p := (ks, xs)) (by simp [asD, qn])
          exact dd ks xs p kvs e h1 h2 h3 hk
        | ins _ _ _ => cases hk
        | dead => cases hk
    | _ => simp [isinV] at hk

theorem lt_ltT : ∀ (a b : Txt), decide (a < b) = ltT a b
  | [], [] => by simp [ltT]
  | [], _ :: _ => by simp [ltT]
  | _ :: _, [] => by simp [ltT]
  | a :: as, b :: bs => by
    rw [ltT, ← lt_ltT as bs]
    by_cases h1 : a < b
    · rw [if_pos h1, decide_eq_true_iff, List.cons_lt_cons_iff]
      exact .inl h1
    · rw [if_neg h1]
      by_cases h2 : b < a
      · rw [if_pos h2, decide_eq_false_iff_not, List.cons_lt_cons_iff]
        omega
      · rw [if_neg h2]
        have : a = b := by omega
        subst this
        congr 1
        rw [List.cons_lt_cons_iff]
        simp
theorem neF {s : Shared} {g : Gd} {ρ : List Addr} {H : Hp} {x y : Val} {vx vy : V} {v u : Value} (hx : Rel g ρ H x vx) (hy : Rel g ρ H y vy) (rv : RelV vx v) (ru : RelV vy u) (fx : flat x = true) (fy : flat y = true) (A : Around) : RcNeAt A s v u (!eqf x y) := by
  rcases flat_sd hx fx with ⟨b, rfl, rfl⟩ | ⟨b, rfl, rfl⟩ | ⟨b, rfl, rfl⟩ | ⟨rfl, rfl⟩
  · cases rv
    rcases flat_sd hy fy with ⟨c, rfl, rfl⟩ | ⟨c, rfl, rfl⟩ | ⟨c, rfl, rfl⟩ | ⟨rfl, rfl⟩
    · cases ru; exact RcNeAt.bool_bool _ _
    · obtain ⟨t', rfl⟩ := ru; exact RcNeAt.bool_int _ _ _
    · obtain ⟨t', rfl⟩ := ru; exact RcNeAt.bool_str _ _ _
    · cases ru; exact RcNeAt.bool_none _
  · obtain ⟨t, rfl⟩ := rv
    rcases flat_sd hy fy with ⟨c, rfl, rfl⟩ | ⟨c, rfl, rfl⟩ | ⟨c, rfl, rfl⟩ | ⟨rfl, rfl⟩
    · cases ru; exact RcNeAt.int_bool _ _ _
    · obtain ⟨t', rfl⟩ := ru; exact RcNeAt.int_int _ _ _ _
    · obtain ⟨t', rfl⟩ := ru; exact RcNeAt.int_str _ _ _ _
    · cases ru; exact RcNeAt.int_none _ _
  · obtain ⟨t, rfl⟩ := rv
    rcases flat_sd hy fy with ⟨c, rfl, rfl⟩ | ⟨c, rfl, rfl⟩ | ⟨c, rfl, rfl⟩ | ⟨rfl, rfl⟩
    · cases ru; exact RcNeAt.str_bool _ _ _
    · obtain ⟨t', rfl⟩ := ru; exact RcNeAt.str_int _ _ _ _
    · obtain ⟨t', rfl⟩ := ru; show RcNeAt A s _ _ (!(b == c)); rw [← beq_tx]; exact RcNeAt.str_str _ _ _ _
    · cases ru; exact RcNeAt.str_none _ _
  · cases rv
    rcases flat_sd hy fy with ⟨c, rfl, rfl⟩ | ⟨c, rfl, rfl⟩ | ⟨c, rfl, rfl⟩ | ⟨rfl, rfl⟩
    · cases ru; exact RcNeAt.none_bool _
    · obtain ⟨t', rfl⟩ := ru; exact RcNeAt.none_int _ _
    · obtain ⟨t', rfl⟩ := ru; exact RcNeAt.none_str _ _
    · cases ru; exact RcNeAt.none_none
theorem opC (hK : X.K = g.K) (hu : X.A.units + 64 < cLine) (o : CO) : OpR X (compareOp (co o)) (R2v g fun st a b => (cmpV st o a b).map .bl) := by
  cases o with
  | isin =>
    intro pins s σ H x y v u Q I rx ry h
    refine opIn hK hu false pins s σ H x y v u Q I rx ry ?_
    obtain ⟨ρ, st, a, b, z, w, ra, rb, hz, q⟩ := h
    exact ⟨ρ, st, a, b, z, w, ra, rb, by simpa [cmpV] using hz, q⟩
  | notin =>
    intro pins s σ H x y v u Q I rx ry h
    refine opIn hK hu true pins s σ H x y v u Q I rx ry ?_
    obtain ⟨ρ, st, a, b, z, w, ra, rb, hz, q⟩ := h
    refine ⟨ρ, st, a, b, z, w, ra, rb, ?_, q⟩
    simp only [cmpV, Option.map_map] at hz
    rw [← hz]; rfl
  | eq =>
    intro pins s σ H x y v u Q I rx ry h
    obtain ⟨ρ, st, a, b, z, w, ra, rb, hz, q⟩ := h
    simp only [cmpV] at hz
    cases qe : eqv st 60 a b with
    | none => rw [qe] at hz; cases hz
    | some k =>
      rw [qe] at hz
      cases hz
      exact (eqA I hK w 60 a b x y v u k ra rb rx ry qe X.A (by omega)).2 X.xe _ ⟨.bl k, H, I, rfl, q ρ H Ext.refl w _ rel_bl⟩
  | ne =>
    intro pins s σ H x y v u Q I rx ry h
    obtain ⟨ρ, st, a, b, z, w, ra, rb, hz, q⟩ := h
    have fin : ∀ V, Rel g ρ H z V → Q V H := fun V r => q ρ H Ext.refl w V r
    simp only [cmpV, neV] at hz
    cases q1 : view st a with
    | none => rw [q1] at hz; cases hz
    | some S1 =>
      cases q2 : view st b with
      | none => rw [q1, q2] at hz; cases S1 <;> cases hz
      | some S2 =>
        rw [q1, q2] at hz
        have el : ∀ (xs ys : List Val) (vs us : List L2.V) (is js : List Value) (e : Nat → Bool), Rels g ρ H xs vs → Rels g ρ H ys us → Vals vs is → Vals us js →
            (∀ (j : Nat) x y, xs[j]? = some x → ys[j]? = some y → eqv st 59 x y = some (e j)) → ∀ j (h1 : j < is.toArray.size) (h2 : j < js.toArray.size), EqP X.prog X.w X.A.in1 s is.toArray[j] js.toArray[j] (e j) := fun xs ys vs us is js e r1 r2 v1 v2 he j h1 h2 => by
          have l1 := v1.length
          have l2 := v2.length
          simp at h1 h2
          obtain ⟨a1, ha1⟩ : ∃ a, vs[j]? = some a := ⟨_, List.getElem?_eq_getElem (by omega)⟩
          obtain ⟨a2, ha2⟩ : ∃ a, us[j]? = some a := ⟨_, List.getElem?_eq_getElem (by omega)⟩
          obtain ⟨z1, hz1, q1⟩ := r1.getV ha1
          obtain ⟨z2, hz2, q2⟩ := r2.getV ha2
          obtain ⟨c1, hc1, p1⟩ := v1.get ha1
          obtain ⟨c2, hc2, p2⟩ := v2.get ha2
          have e1 : is[j] = c1 := by simpa [h1] using hc1
          have e2 : js[j] = c2 := by simpa [h2] using hc2
          simp only [List.getElem_toArray]
          rw [e1, e2]
          exact (eqA I hK w 59 z1 z2 a1 a2 c1 c2 (e j) q1 q2 p1 p2 (he j z1 z2 hz1 hz2) X.A.in1 (by show X.A.units + 1 + 59 < cLine; omega)).1
        have h1 := view_sd w ra q1
        have h2 := view_sd w rb q2
        cases S1 with
        | flt =>
          cases S2 with
          | flt =>
            simp only [Option.map_some, Option.some.injEq] at hz
            subst hz
            exact neF ra rb rx ry (view_flt q1) (view_flt q2) X.A X.prog X.w X.xe _ ⟨.bl _, H, I, rfl, fin _ rel_bl⟩
          | _ => cases hz
        | tup xs =>
          cases S2 with
          | tup ys =>
            obtain ⟨p1, vs, rfl, k1, r1⟩ := h1
            obtain ⟨p2, us, rfl, k2, r2⟩ := h2
            cases rx
            cases ry
            obtain ⟨is, v1, t1, _⟩ := I.tuple (a := p1) (hK ▸ sqT_of k1)
            obtain ⟨js, v2, t2, _⟩ := I.tuple (a := p2) (hK ▸ sqT_of k2)
            have l1 := v1.length
            have l2 := v2.length
            have l3 := r1.length
            have l4 := r2.length
            dsimp only at hz
            cases qe : eqz (eqv st 59) xs ys with
            | none => rw [qe] at hz; cases hz
            | some b =>
              rw [qe] at hz
              simp only [Option.map_some, Option.some.injEq] at hz
              obtain ⟨e, he, hb⟩ := eqz_all xs ys b qe
              have rc := rnP_tuples (P := X.prog) (W := X.w) (A := X.A) (f := e) t1 t2 (by omega) (el xs ys vs us is js e r1 r2 v1 v2 he)
              refine rc X.xe _ ⟨.bl _, H, I, rfl, ?_⟩
              have : (!((List.range (min is.toArray.size js.toArray.size)).all e && is.toArray.size == js.toArray.size)) = !(b && xs.length == ys.length) := by
                rw [hb]
                have e1 : is.toArray.size = xs.length := by simp; omega
                have e2 : js.toArray.size = ys.length := by simp; omega
                rw [e1, e2]
              rw [this]
              subst hz
              exact fin _ rel_bl
          | _ => cases hz
        | lst xs =>
          cases S2 with
          | lst ys =>
            obtain ⟨p1, vs, rfl, k1, r1⟩ := h1
            obtain ⟨p2, us, rfl, k2, r2⟩ := h2
            cases rx
            cases ry
            obtain ⟨is, v1, t1, _⟩ := I.list (a := p1) (hK ▸ k1)
            obtain ⟨js, v2, t2, _⟩ := I.list (a := p2) (hK ▸ k2)
            have l1 := v1.length
            have l2 := v2.length
            have l3 := r1.length
            have l4 := r2.length
            dsimp only at hz
            split at hz
            · rename_i hl
              cases qe : eqz (eqv st 59) xs ys with
              | none => rw [qe] at hz; cases hz
              | some b =>
                rw [qe] at hz
                simp only [Option.map_some, Option.some.injEq] at hz
                obtain ⟨e, he, hb⟩ := eqz_all xs ys b qe
                have rc := rnP_lists (P := X.prog) (W := X.w) (A := X.A) (f := e) t1.isList t2.isList (by simp; omega) (by omega) (el xs ys vs us is js e r1 r2 v1 v2 he)
                refine rc X.xe _ ⟨.bl _, H, I, rfl, ?_⟩
                have : (!((List.range is.toArray.size).all e)) = !b := by
                  rw [hb]; simp; congr 2; omega
                rw [this]
                subst hz
                exact fin _ rel_bl
            · rename_i hl
              simp only [Option.map_some, Option.some.injEq] at hz
              subst hz
              exact RcNeAt.lists_lengths (A := X.A) t1.isList t2.isList (by simp; omega) (by omega) X.prog X.w X.xe _ ⟨.bl true, H, I, rfl, fin _ rel_bl⟩
          | _ => cases hz
        | dct ks xs => cases hz
  | lt =>
    intro pins s σ H x y v u Q I rx ry h
    obtain ⟨ρ, st, a, b, z, w, ra, rb, hz, q⟩ := h
    have fin : ∀ V, Rel g ρ H z V → Q V H := fun V r => q ρ H Ext.refl w V r
    cases a <;> cases b <;> simp only [cmpV, Option.map_some, Option.map_none, reduceCtorEq, Option.some.injEq] at hz
    · subst hz; simp only [Rel] at ra rb; subst ra; subst rb
      exact op_lt pins s σ H _ _ v u Q I rx ry ⟨_, _, rfl, rfl, fin _ rel_bl⟩
    · subst hz; simp only [Rel] at ra rb; obtain ⟨rfl, _⟩ := ra; obtain ⟨rfl, _⟩ := rb
      exact op_lt_str pins s σ H _ _ v u Q I rx ry ⟨_, _, rfl, rfl, by rw [tx_list, tx_list, lt_ltT]; exact fin _ rel_bl⟩
  | le =>
    intro pins s σ H x y v u Q I rx ry h
    obtain ⟨ρ, st, a, b, z, w, ra, rb, hz, q⟩ := h
    have fin : ∀ V, Rel g ρ H z V → Q V H := fun V r => q ρ H Ext.refl w V r
    cases a <;> cases b <;> simp only [cmpV, Option.map_some, Option.map_none, reduceCtorEq, Option.some.injEq] at hz
    · subst hz; simp only [Rel] at ra rb; subst ra; subst rb
      exact op_le pins s σ H _ _ v u Q I rx ry ⟨_, _, rfl, rfl, fin _ rel_bl⟩
    · subst hz; simp only [Rel] at ra rb; obtain ⟨rfl, _⟩ := ra; obtain ⟨rfl, _⟩ := rb
      exact op_le_str pins s σ H _ _ v u Q I rx ry ⟨_, _, rfl, rfl, by rw [tx_list, tx_list, lt_ltT]; exact fin _ rel_bl⟩
  | gt =>
    intro pins s σ H x y v u Q I rx ry h
    obtain ⟨ρ, st, a, b, z, w, ra, rb, hz, q⟩ := h
    have fin : ∀ V, Rel g ρ H z V → Q V H := fun V r => q ρ H Ext.refl w V r
    cases a <;> cases b <;> simp only [cmpV, Option.map_some, Option.map_none, reduceCtorEq, Option.some.injEq] at hz
    · subst hz; simp only [Rel] at ra rb; subst ra; subst rb
      exact op_gt pins s σ H _ _ v u Q I rx ry ⟨_, _, rfl, rfl, fin _ rel_bl⟩
    · subst hz; simp only [Rel] at ra rb; obtain ⟨rfl, _⟩ := ra; obtain ⟨rfl, _⟩ := rb
      exact op_gt_str pins s σ H _ _ v u Q I rx ry ⟨_, _, rfl, rfl, by rw [tx_list, tx_list, lt_ltT]; exact fin _ rel_bl⟩
  | ge =>
    intro pins s σ H x y v u Q I rx ry h
    obtain ⟨ρ, st, a, b, z, w, ra, rb, hz, q⟩ := h
    have fin : ∀ V, Rel g ρ H z V → Q V H := fun V r => q ρ H Ext.refl w V r
    cases a <;> cases b <;> simp only [cmpV, Option.map_some, Option.map_none, reduceCtorEq, Option.some.injEq] at hz
    · subst hz; simp only [Rel] at ra rb; subst ra; subst rb
      exact op_ge pins s σ H _ _ v u Q I rx ry ⟨_, _, rfl, rfl, fin _ rel_bl⟩
    · subst hz; simp only [Rel] at ra rb; obtain ⟨rfl, _⟩ := ra; obtain ⟨rfl, _⟩ := rb
      exact op_ge_str pins s σ H _ _ v u Q I rx ry ⟨_, _, rfl, rfl, by rw [tx_list, tx_list, lt_ltT]; exact fin _ rel_bl⟩
end
end Mi
namespace Mi
open PySem L2 PySem.SeqAt

/-! the order of texts -/
theorem ltT_irrefl : ∀ a : Txt, ltT a a = false
  | [] => rfl
  | a :: as => by simp [ltT, ltT_irrefl as]
theorem ltT_trans : ∀ {a b c : Txt}, ltT a b = true → ltT b c = true → ltT a c = true
  | [], [], c, h, _ => by simp [ltT] at h
  | [], b :: bs, [], _, h => by simp [ltT] at h
  | [], b :: bs, c :: cs, _, _ => rfl
  | a :: as, [], c, h, _ => by simp [ltT] at h
  | a :: as, b :: bs, [], _, h => by simp [ltT] at h
  | a :: as, b :: bs, c :: cs, h1, h2 => by
    simp only [ltT] at h1 h2 ⊢
    by_cases x1 : a < b
    · by_cases x2 : b < c
      · rw [if_pos (by omega)]
      · rw [if_neg x2] at h2
        by_cases x3 : c < b
        · rw [if_pos x3] at h2; cases h2
        · rw [if_pos (by omega)]
    · rw [if_neg x1] at h1
      by_cases x4 : b < a
      · rw [if_pos x4] at h1; cases h1
      · rw [if_neg x4] at h1
        by_cases x2 : b < c
        · rw [if_pos (by omega)]
        · rw [if_neg x2] at h2
          by_cases x3 : c < b
          · rw [if_pos x3] at h2; cases h2
          · rw [if_neg x3] at h2
            rw [if_neg (by omega), if_neg (by omega)]
            exact ltT_trans h1 h2
theorem ltT_tri : ∀ {a b : Txt}, ltT a b = false → ltT b a = false → a = b
  | [], [], _, _ => rfl
  | [], b :: bs, h, _ => by simp [ltT] at h
  | a :: as, [], _, h => by simp [ltT] at h
  | a :: as, b :: bs, h1, h2 => by
    simp only [ltT] at h1 h2
    by_cases x1 : a < b
    · rw [if_pos x1] at h1; cases h1
    · by_cases x2 : b < a
      · rw [if_pos x2] at h2; cases h2
      · rw [if_neg x1, if_neg x2] at h1
        rw [if_neg x2, if_neg x1] at h2
        rw [show a = b by omega, ltT_tri h1 h2]
theorem ltT_asymm {a b : Txt} (h : ltT a b = true) : ltT b a = false := by
  cases q : ltT b a with
  | false => rfl
  | true =>
    have := ltT_trans h q
    rw [ltT_irrefl] at this; cases this
theorem ltT_le {a b c : Txt} (h1 : ltT b a = false) (h2 : ltT c b = false) : ltT c a = false := by
  cases q : ltT c a with
  | false => rfl
  | true =>
    cases q2 : ltT a b with
    | true => rw [ltT_trans q q2] at h2; cases h2
    | false =>
      have := ltT_tri q2 h1
      subst this
      rw [q] at h2; cases h2
theorem ltT_cps : ∀ a b : Txt, Spec.ltCps a b = ltT a b
  | [], [] => rfl
  | [], _ :: _ => rfl
  | _ :: _, [] => rfl
  | a :: as, b :: bs => by
    simp only [Spec.ltCps, ltT, ltT_cps as bs]
    by_cases h1 : a < b
    · simp [h1]
    · by_cases h2 : b < a
      · have : ¬ a = b := by omega
        simp [h1, h2, this]
      · have : a = b := by omega
        subst this
        simp
def LeT (a b : Txt) : Prop := ltT b a = false
theorem insT_perm (x : Txt) : ∀ l : List Txt, (insT x l).Perm (x :: l)
  | [] => .refl _
  | y :: ys => by
    unfold insT
    split
    · exact ((insT_perm x ys).cons y).trans (.swap ..)
    · exact .refl _
theorem sortT_perm : ∀ l : List Txt, (sortT l).Perm l
  | [] => .refl _
  | x :: xs => (insT_perm x _).trans ((sortT_perm xs).cons x)
theorem insT_sorted (x : Txt) : ∀ {l : List Txt}, l.Pairwise LeT → (insT x l).Pairwise LeT
  | [], _ => by simp [insT]
  | y :: ys, h => by
    obtain ⟨h1, h2⟩ := List.pairwise_cons.mp h
    unfold insT
    split
    · rename_i q
      refine List.pairwise_cons.mpr ⟨fun z hz => ?_, insT_sorted x h2⟩
      rcases List.mem_cons.mp ((insT_perm x ys).mem_iff.mp hz) with rfl | hz
      · exact ltT_asymm q
      · exact h1 z hz
    · rename_i q
      have q : ltT y x = false := by simpa using q
      refine List.pairwise_cons.mpr ⟨fun z hz => ?_, h⟩
      rcases List.mem_cons.mp hz with rfl | hz
      · exact q
      · exact ltT_le q (h1 z hz)
theorem sortT_sorted : ∀ l : List Txt, (sortT l).Pairwise LeT
  | [] => List.Pairwise.nil
  | x :: xs => insT_sorted x (sortT_sorted xs)
theorem sort_uniq {a b : List Txt} (h1 : a.Pairwise LeT) (h2 : b.Pairwise LeT) (p : a.Perm b) : a = b :=
  List.Perm.eq_of_pairwise (fun x y _ _ h k => ltT_tri k h) h1 h2 p
theorem rising_sorted : ∀ (l : List Txt) (x : Txt), PyProof.Rows.risingS (tx x) (l.map tx) = true → (x :: l).Pairwise LeT
  | [], x, _ => by simp
  | y :: l, x, h => by
    simp only [List.map_cons, PyProof.Rows.risingS, Bool.and_eq_true, Bool.not_eq_true', tx_list, ltT_cps] at h
    have ih := rising_sorted l y h.2
    refine List.pairwise_cons.mpr ⟨fun z hz => ?_, ih⟩
    rcases List.mem_cons.mp hz with rfl | hz
    · exact h.1
    · exact ltT_le h.1 ((List.pairwise_cons.mp ih).1 z hz)
theorem sortedS_sorted {l : List Txt} (h : PyProof.Rows.sortedS (l.map tx) = true) : l.Pairwise LeT := by
  cases l with
  | nil => exact List.Pairwise.nil
  | cons x l => exact rising_sorted l x h
theorem map_tx_inv : ∀ ys : List Str, (ys.map fun y => tx y.cps.toList) = ys
  | [] => rfl
  | y :: ys => by rw [List.map_cons, tx_of, map_tx_inv ys]
/-- what sorted gives -/
theorem sorted_is {ts : List Txt} {ys : List Str} (p : ys.Perm (ts.map tx)) (h : PyProof.Rows.sortedS ys = true) : ys = (sortT ts).map tx := by
  have e : ys = (ys.map fun y => y.cps.toList).map tx := by rw [List.map_map]; exact (map_tx_inv ys).symm
  rw [e] at h ⊢
  congr 1
  refine sort_uniq (sortedS_sorted h) (sortT_sorted ts) ?_
  have p2 := p.map (fun y : Str => y.cps.toList)
  rw [List.map_map] at p2
  have e2 : (ts.map ((fun y : Str => y.cps.toList) ∘ tx)) = ts := by
    rw [show ((fun y : Str => y.cps.toList) ∘ tx) = id from funext fun t => tx_list t]; simp
  rw [e2] at p2
  exact p2.trans (sortT_perm ts).symm
theorem sortT_len (l : List Txt) : (sortT l).length = l.length := (sortT_perm l).length_eq
theorem insU_mem (x : Txt) : ∀ (l : List Txt) (z : Txt), z ∈ insU x l ↔ z = x ∨ z ∈ l
  | [], z => by simp [insU]
  | y :: ys, z => by
    unfold insU
    split
    · rw [List.mem_cons, insU_mem x ys z, List.mem_cons]
      constructor <;> (rintro (h | h | h) <;> simp [h])
    · split
      · simp
      · rename_i q1 q2
        have e : y = x := ltT_tri (by simpa using q1) (by simpa using q2)
        subst e
        simp
theorem sortU_mem : ∀ (l : List Txt) (z : Txt), z ∈ sortU l ↔ z ∈ l
  | [], z => by simp [sortU]
  | x :: xs, z => by rw [sortU, insU_mem, sortU_mem xs z, List.mem_cons]
def LtT (a b : Txt) : Prop := ltT a b = true
theorem insU_sorted (x : Txt) : ∀ {l : List Txt}, l.Pairwise LtT → (insU x l).Pairwise LtT
  | [], _ => by simp [insU]
  | y :: ys, h => by
    obtain ⟨h1, h2⟩ := List.pairwise_cons.mp h
    unfold insU
    split
    · rename_i q
      refine List.pairwise_cons.mpr ⟨fun z hz => ?_, insU_sorted x h2⟩
      rcases (insU_mem x ys z).mp hz with rfl | hz
      · exact q
      · exact h1 z hz
    · split
      · rename_i q
        refine List.pairwise_cons.mpr ⟨fun z hz => ?_, h⟩
        rcases List.mem_cons.mp hz with rfl | hz
        · exact q
        · exact ltT_trans q (h1 z hz)
      · exact h
theorem sortU_sorted : ∀ l : List Txt, (sortU l).Pairwise LtT
  | [] => List.Pairwise.nil
  | x :: xs => insU_sorted x (sortU_sorted xs)
theorem lt_le {l : List Txt} (h : l.Pairwise LtT) : l.Pairwise LeT := h.imp fun h => ltT_asymm h
theorem lt_nodup {l : List Txt} (h : l.Pairwise LtT) : l.Nodup := h.imp fun {a b} h e => by
  subst e
  rw [LtT, ltT_irrefl] at h; cases h
theorem insU_len (x : Txt) : ∀ l : List Txt, (insU x l).length ≤ l.length + 1
  | [] => by simp [insU]
  | y :: ys => by
    unfold insU
    split
    · simpa using insU_len x ys
    · split <;> simp
theorem sortU_len : ∀ l : List Txt, (sortU l).length ≤ l.length
  | [] => by simp [sortU]
  | x :: xs => by
    have h1 := insU_len x (sortU xs)
    have h2 := sortU_len xs
    rw [sortU, List.length_cons]
    exact Nat.le_trans h1 (by omega)
end Mi
namespace Mi
open PySem L2 PySem.SeqAt

section
variable {X : Cx} {g : Gd}
theorem Rels.at {ρ : List Addr} {H : Hp} {xs : List Val} {vs : List V} {i : Int} {x : Val} (h : Rels g ρ H xs vs) (e : atI xs i = some x) : ∃ v, atI vs i = some v ∧ Rel g ρ H x v := by
  unfold atI at e ⊢
  rw [← h.length]
  cases q : ixN xs.length i with
  | none => rw [q] at e; cases e
  | some j =>
    rw [q] at e
    exact h.get e
theorem sub_tail {value slice : Expr} {o i : Value} {T id : String} {A : Around} {E : Value → Shared → Prop} {s : Shared} {P : Program} {w : World} {Q : Value → Shared → Prop} (hT : s.TypeIs o T) (hl : typeLookup (.type T) "__getitem__" = pure (some (.builtin id)))
    (h : wpAny (model P w) A (getItem o i) Q E s) (hs : subscripted slice false o i = operate [o, i] (getItem o i)) : wpAny (model P w) A (PyProof.Rows.subscriptTail value slice o i) Q E s := by
  unfold PyProof.Rows.subscriptTail; refine wpAny_bind ?_; rw [getitemInPython_of_ne hT.not_modules]; refine wpAny_bind (wpAny_specialOf hT hl ?_)
  have k : wpAny (model P w) A (subscripted slice false o i) (fun r s2 => wpAny (model P w) A (letTemporaryGo value o r >>= fun _ => pure r) Q E s2) E s := by
    rw [hs]; exact wpAny_operating (wpAny_mono h (fun r s2 h2 => wpAny_bind (wpAny_letTemporaryGo (wpAny_pure h2))) fun _ _ x => x)
  first | exact wpAny_pure (wpAny_bind k) | exact wpAny_bind (wpAny_pure (wpAny_bind k)) | exact wpAny_bind k
theorem ix_dict (hu : X.A.units + 1 < cLine) : IxR X (fun x y H Q => ∃ a v, x = .ref a ∧ DGet H a y (some v) ∧ Q v H) := by
  intro value slice pins s σ H x y v u Q I rx ry h hs
  obtain ⟨a, z, rfl, hd, q⟩ := h
  cases rx
  exact sub_tail (dict_typeIs I hd) PySem.F.slot_dict_getitem.lookup (d_getItem hu I hd ry fun r s1 I1 rr => ⟨z, H, I1, rr, q⟩) hs
theorem opX (hK : X.K = g.K) (hu : X.A.units + 64 < cLine) : IxR X (R2v g ixV) := by
  intro value slice pins s σ H x y v u Q I rx ry h hs
  obtain ⟨ρ, st, a, b, z, w, ra, rb, hz, q⟩ := h
  have fin : ∀ V, Rel g ρ H z V → Q V H := fun V r => q ρ H Ext.refl w V r
  have ls : ∀ (xs : List Val) (p : Addr) (vs : List V) (i : Int), x = .ref p → SqL g.K H p vs → Rels g ρ H xs vs → y = .int i → atI xs i = some z → wpAny (model X.prog X.w) X.A (PyProof.Rows.subscriptTail value slice v u) (EP X pins σ Q) X.xe s := by
    intro xs p vs i e1 h1 h2 e2 h3
    obtain ⟨zv, hv, rz⟩ := h2.at h3
    exact ix_list value slice pins s σ H x y v u Q I rx ry ⟨p, vs, i, zv, e1, e2, hK ▸ h1, hv, fin _ rz⟩ hs
  have dd : ∀ (ks : List Txt) (xs : List Val) (p : Addr) (kvs : List (Key × V)), x = .ref p → Rd H p (.dK kvs) → kvs.map (·.1) = ks.map tk → Rels g ρ H xs (kvs.map (·.2)) → ((keyOf b).bind fun k => look k ks xs) = some z →
      wpAny (model X.prog X.w) X.A (PyProof.Rows.subscriptTail value slice v u) (EP X pins σ Q) X.xe s := by
    intro ks xs p kvs e1 h1 h2 h3 h4
    cases qk : keyOf b with
    | none => rw [qk] at h4; cases h4
    | some k =>
      rw [qk] at h4
      obtain ⟨zv, hv, rz⟩ := look_sd h4 h2 h3
      obtain ⟨ev, _⟩ := key_sd rb qk
      exact ix_dict (by omega) value slice pins s σ H x y v u Q I rx ry ⟨p, zv, e1, by rw [ev, ← hv]; exact .inl ⟨kvs, tk k, h1, rfl, rfl⟩, fin _ rz⟩ hs
  cases a with
  | tup xs =>
    cases b with
    | int i =>
      simp only [ixV] at hz
      obtain ⟨p, vs, rfl, h1, _, h2⟩ := tup_sd ra
      simp only [Rel] at rb; subst rb
      obtain ⟨zv, hv, rz⟩ := h2.at hz
      exact ix_tup value slice pins s σ H _ _ v u Q I rx ry ⟨p, vs, i, zv, rfl, rfl, hK ▸ h1, hv, fin _ rz⟩ hs
    | _ => simp [ixV] at hz
  | str t =>
    cases b with
    | int i =>
      simp only [ixV] at hz
      cases qa : atI t i with
      | none => rw [qa] at hz; cases hz
      | some c =>
        rw [qa] at hz
        cases hz
        simp only [Rel] at ra rb; subst rb; obtain ⟨rfl, hl⟩ := ra
        exact ix_str value slice pins s σ H _ _ v u Q I rx ry ⟨tx t, i, c, rfl, rfl, by rw [tx_len]; exact hl, by rw [tx_list]; exact qa, fin _ (rel_str (x := [c]) (show 1 ≤ sizeLine by decide))⟩ hs
    | _ => simp [ixV] at hz
  | lst xs =>
    cases b with
    | int i =>
      simp only [ixV] at hz
      obtain ⟨p, vs, e, h1, _, h2⟩ := asL_sd w ra rfl
      simp only [Rel] at rb
      exact ls xs p vs i e h1 h2 rb hz
    | _ => simp [ixV] at hz
  | dct ks xs =>
    simp only [ixV] at hz
    obtain ⟨p, kvs, e, h1, _, ⟨h2, _⟩, h3⟩ := asD_sd w ra rfl
    exact dd ks xs p kvs e h1 h2 h3 hz
  | loc n =>
    simp only [ixV] at hz
    cases qn : st[n]? with
    | none => rw [qn] at hz; cases hz
    | some ob =>
      rw [qn] at hz
      cases ob with
      | lst xs =>
        obtain ⟨p, vs, e, h1, _, h2⟩ := asL_sd w ra (xs := xs) (by simp [asL, qn])
        cases b with
        | int i => simp only [Rel] at rb; exact ls xs p vs i e h1 h2 rb hz
        | _ => simp at hz
      | dct ks xs =>
        obtain ⟨p, kvs, e, h1, _, ⟨h2, _⟩, h3⟩ := asD_sd w ra (p := (ks, xs)) (by simp [asD, qn])
        exact dd ks xs p kvs e h1 h2 h3 hz
      | ins _ _ _ => cases hz
      | dead => cases hz
  | _ => simp [ixV] at hz

/-! built-ins -/
def RCv (g : Gd) (f : Store → List Val → Option Val) : List V → Hp → VK → Prop := fun vs H Q => ∃ ρ st as v, Wd g ρ st H ∧ Rels g ρ H as vs ∧ f st as = some v ∧
  ∀ ρ' H', Ext ρ H ρ' H' → Wd g ρ' st H' → ∀ V, Rel g ρ' H' v V → Q V H'
theorem ints_sd {ρ : List Addr} {H : Hp} : ∀ {xs : List Val} {vs : List V} {ns : List Int}, Rels g ρ H xs vs → intsV xs = some ns → vs = ns.map V.int
  | [], vs, ns, h, e => by simp only [intsV, Option.some.injEq] at e; subst e; simp only [Rels] at h; exact h
  | x :: xs, vs, ns, h, e => by
    obtain ⟨v, r, rfl, h1, h2⟩ := h.cons_inv
    cases x <;> simp only [intsV, reduceCtorEq] at e
    cases q : intsV xs with
    | none => rw [q] at e; cases e
    | some ms =>
      rw [q] at e; cases e
      simp only [Rel] at h1
      rw [h1, ints_sd h2 q]; rfl
theorem strs_sd {ρ : List Addr} {H : Hp} : ∀ {xs : List Val} {vs : List V} {ns : List Txt}, Rels g ρ H xs vs → strsV xs = some ns → vs = ns.map fun t => V.str (tx t)
  | [], vs, ns, h, e => by simp only [strsV, Option.some.injEq] at e; subst e; simp only [Rels] at h; exact h
  | x :: xs, vs, ns, h, e => by
    obtain ⟨v, r, rfl, h1, h2⟩ := h.cons_inv
    cases x <;> simp only [strsV, reduceCtorEq] at e
    cases q : strsV xs with
    | none => rw [q] at e; cases e
    | some ms =>
      rw [q] at e; cases e
      simp only [Rel] at h1
      rw [h1.1, strs_sd h2 q]; rfl
theorem bls_sd {ρ : List Addr} {H : Hp} : ∀ {xs : List Val} {vs : List V} {ns : List Bool}, Rels g ρ H xs vs → blsV xs = some ns → vs = ns.map V.bl
  | [], vs, ns, h, e => by simp only [blsV, Option.some.injEq] at e; subst e; simp only [Rels] at h; exact h
  | x :: xs, vs, ns, h, e => by
    obtain ⟨v, r, rfl, h1, h2⟩ := h.cons_inv
    cases x <;> simp only [blsV, reduceCtorEq] at e
    cases q : blsV xs with
    | none => rw [q] at e; cases e
    | some ms =>
      rw [q] at e; cases e
      simp only [Rel] at h1
      rw [h1, bls_sd h2 q]; rfl
theorem one_sd {ρ : List Addr} {H : Hp} {x : Val} {vs : List V} (h : Rels g ρ H [x] vs) : ∃ v, vs = [v] ∧ Rel g ρ H x v := by
  obtain ⟨v, r, rfl, h1, h2⟩ := h.cons_inv
  simp only [Rels] at h2; subst h2
  exact ⟨v, rfl, h1⟩
theorem strs_len {ρ : List Addr} {H : Hp} : ∀ {xs : List Val} {vs : List V} {ns : List Txt}, Rels g ρ H xs vs → strsV xs = some ns → ∀ t ∈ ns, t.length ≤ sizeLine
  | [], vs, ns, h, e => by simp only [strsV, Option.some.injEq] at e; subst e; simp
  | x :: xs, vs, ns, h, e => by
    obtain ⟨v, r, rfl, h1, h2⟩ := h.cons_inv
    cases x <;> simp only [strsV, reduceCtorEq] at e
    cases q : strsV xs with
    | none => rw [q] at e; cases e
    | some ms =>
      rw [q] at e; cases e
      simp only [Rel] at h1
      intro t ht
      rcases List.mem_cons.mp ht with rfl | ht
      · exact h1.2
      · exact strs_len h2 q t ht
theorem strs_rel {ρ : List Addr} {H : Hp} : ∀ {ts : List Txt}, (∀ t ∈ ts, t.length ≤ sizeLine) → Rels g ρ H (ts.map .str) (ts.map (V.str ∘ tx))
  | [], _ => .nil
  | t :: ts, h => .cons (rel_str (h t List.mem_cons_self)) (strs_rel fun t' ht => h t' (List.mem_cons_of_mem _ ht))
theorem call_list_rd {X : Cx} (hc : X.calm = true) : CallR X (.type "list") (fun xs H Q => ∃ p kvs, xs = [.ref p] ∧ Rd H p (.dK kvs) ∧ ∀ q, H q = none → Q (.ref q) (upd H q (.lst (kvs.map fun kv => kV kv.1)))) := by
  intro pins s σ H xs us Q I r h
  obtain ⟨p, kvs, e, hk, q⟩ := h
  subst e
  obtain ⟨u, eu, rx⟩ := vals1 r
  subst eu
  obtain rfl : u = Value.ref p := rx
  obtain ⟨z, lo, vs, rk, hd⟩ := dk_rd I.hok hk
  obtain ⟨ep, hat⟩ := hd.dictAt
  have hl : kvs.length = vs.length := Paired.length rk
  refine PySem.W.kdl_call (PySem.W.kdl_dict (knd := mixKind X.prog X.w) (kvs := vs) (ep := ep) lo) (I.ok.hd hc) hat (by rw [← hl]; exact z) fun h' tk acc' c' hkeep hS hacc => ?_
  refine ⟨.ref s.heap.objs.size, upd H s.heap.objs.size (.lst (kvs.map fun kv => kV kv.1)), I.laid hkeep (Nat.le_refl _) (show ObjOk X.prog X.w _ _ _ (.lst (kvs.map fun kv => kV kv.1)) from ⟨?_, acc'.toList, c', ?_, ?_⟩), rfl, q _ (I.hok.fresh (Nat.le_refl _))⟩
  · rw [List.length_map]; exact z
  · have el : acc'.toList.length = acc'.size := by simp
    refine vals_of_at (by rw [List.length_map, el, hacc.1, hl]) fun j x w h1 h2 => ?_
    obtain ⟨k, y, hky, hi⟩ := hacc.2 j w (by rw [← Array.getElem?_toList]; exact h2)
    have e1 : (kvs.map (·.1))[j]? = some k := by
      rw [KV.keys rk, List.getElem?_map, hky] <;> rfl
    have e2 : (kvs.map fun kv => kV kv.1)[j]? = some (kV k) := by
      have e3 : (kvs.map fun kv => kV kv.1) = (kvs.map (·.1)).map kV := by rw [List.map_map] <;> rfl
      rw [e3, List.getElem?_map, e1] <;> rfl
    rw [e2] at h1
    cases h1
    exact keyIs_rel hi
  · rw [Array.toArray_toList]; exact hS
/-- list(x): a sequence, or a dict's keys -/
theorem list_of {ρ : List Addr} {st : Store} {H : Hp} {pins : List (Addr × Obj)} {σ : St} {s : Shared} {x : Val} {v : V} {us : List Value} {ys : List Val} {Q : VK} (hK : X.K = g.K) (hc : X.calm = true) (w : Wd g ρ st H) (h1 : Rel g ρ H x v) (e : listV st x = some ys)
    (I : Inv X pins σ H s) (r : Vals [v] us) (q : ∀ l vs, ys.length ≤ sizeLine → Rels g ρ H ys vs → H l = none → Q (.ref l) (upd H l (.lst vs))) : wpAny (model X.prog X.w) X.A (call (.type "list") us) (EP X pins σ Q) X.xe s := by
  unfold listV at e
  cases q1 : asS st x with
  | some xs =>
    rw [q1] at e
    cases e
    obtain ⟨a, vs, rfl, h2, h3, h4⟩ := asS_sd w h1 q1
    exact call_list_of pins s σ H _ us Q I r ⟨a, vs, rfl, by rw [hK]; exact h2, fun l hl => q l vs h3 h4 hl⟩
  | none =>
    rw [q1] at e
    cases q2 : asD st x with
    | none => rw [q2] at e; cases e
    | some p =>
      rw [q2] at e
      simp only [Option.map_some, Option.some.injEq] at e
      subst e
      obtain ⟨a, kvs, rfl, h2, h3, ⟨h4, hks⟩, h5⟩ := asD_sd w h1 q2
      refine call_list_rd hc pins s σ H _ us Q I r ⟨a, kvs, rfl, h2, fun l hl => ?_⟩
      have hl2 : p.1.length = kvs.length := by
        have := congrArg List.length h4
        simpa using this.symm
      have hl3 : p.2.length = kvs.length := by
        have := h5.length
        simpa using this
      have e3 : (kvs.map fun kv => kV kv.1) = p.1.map (V.str ∘ tx) := by
        have : (kvs.map fun kv => kV kv.1) = (kvs.map (·.1)).map kV := by rw [List.map_map]; rfl
        rw [this, h4, List.map_map]; rfl
      rw [e3]
      refine q l _ (by rw [List.length_map]; omega) (strs_rel fun t ht => hks t ht) hl
def foV : FO → Value
  | .len => .builtin "len" | .abs => .builtin "abs" | .sum => .builtin "sum" | .int => .type "int" | .str => .type "str" | .list => .type "list" | .tuple => .type "tuple"
  | .sorted => .builtin "sorted" | .all => .builtin "all" | .any => .builtin "any" | .max => .builtin "max" | .min => .builtin "min" | .dict => .type "dict" | .ssort => .none | .lset => .none

theorem opF (hK : X.K = g.K) (hc : X.calm = true) (hu : X.A.units + 64 < cLine) (f : FO) (hf : f ≠ .ssort) : CallR X (foV f) (RCv g fun st => fnV st f) := by
  intro pins s σ H xs us Q I r h
  obtain ⟨ρ, st, as, z, w, ra, hz, q⟩ := h
  have fin : ∀ V, Rel g ρ H z V → Q V H := fun V r => q ρ H Ext.refl w V r
  have ls : ∀ (x : Val) (ys : List Val), as = [x] → asL st x = some ys → ∃ a vs, xs = [.ref a] ∧ SqL X.K H a vs ∧ ys.length ≤ sizeLine ∧ Rels g ρ H ys vs := fun x ys e1 e2 => by
    subst e1
    obtain ⟨v, rfl, h1⟩ := one_sd ra
    obtain ⟨a, vs, rfl, h2, h3, h4⟩ := asL_sd w h1 e2
    exact ⟨a, vs, rfl, hK ▸ h2, h3, h4⟩
  cases f with
  | len =>
    simp only [fnV] at hz
    unfold lenV at hz
    split at hz
    · cases hz
      obtain ⟨v, rfl, h1⟩ := one_sd ra
      simp only [Rel] at h1
      obtain ⟨rfl, h1⟩ := h1
      exact call_len pins s σ H _ us Q I r ⟨_, _, rfl, ⟨by rw [tx_len]; exact h1, rfl⟩, by rw [tx_len]; exact fin _ rel_int⟩
    · rename_i x _
      obtain ⟨v, rfl, h1⟩ := one_sd ra
      split at hz
      · rename_i ys e
        cases hz
        obtain ⟨a, vs, rfl, h2, h3, h4⟩ := asS_sd w h1 e
        refine call_len_seq pins s σ H _ us Q I r ⟨a, vs, rfl, by rw [hK]; exact h2, ?_⟩
        rw [← h4.length]; exact fin _ rel_int
      · rename_i e
        cases qd : asD st x with
        | none => rw [qd] at hz; cases hz
        | some p =>
          rw [qd] at hz
          cases hz
          obtain ⟨a, kvs, rfl, h2, h3, h4, h5⟩ := asD_sd w h1 qd
          obtain ⟨u, rfl, hr⟩ := Vals.one r
          cases hr
          refine d_len I h2 fun t s' I' => ⟨.int kvs.length, H, I', ⟨t, rfl⟩, ?_⟩
          have := h5.length
          rw [List.length_map] at this
          rw [← this]; exact fin _ rel_int
    · cases hz
  | abs =>
    simp only [fnV] at hz
    split at hz
    · cases hz
      obtain ⟨v, rfl, h1⟩ := one_sd ra
      simp only [Rel] at h1; subst h1
      exact call_abs pins s σ H _ us Q I r ⟨_, rfl, fin _ rel_int⟩
    · cases hz
  | sum =>
    simp only [fnV] at hz
    split at hz
    · rename_i x
      cases q1 : asL st x with
      | none => rw [q1] at hz; cases hz
      | some ys =>
        rw [q1] at hz
        simp only [Option.bind_some] at hz
        cases q2 : intsV ys with
        | none => rw [q2] at hz; cases hz
        | some ns =>
          rw [q2] at hz; cases hz
          obtain ⟨a, vs, rfl, h2, h3, h4⟩ := ls x ys rfl q1
          exact cr_sum hc pins s σ H _ us Q I r ⟨a, ns, rfl, by rw [← ints_sd h4 q2]; exact h2, fin _ rel_int⟩
    · cases hz
  | int =>
    simp only [fnV] at hz
    split at hz
    · cases hz
      obtain ⟨v, rfl, h1⟩ := one_sd ra
      simp only [Rel] at h1; subst h1
      exact call_int1 pins s σ H _ us Q I r (.inl ⟨_, rfl, fin _ rel_int⟩)
    · cases hz
      obtain ⟨v, rfl, h1⟩ := one_sd ra
      simp only [Rel] at h1; subst h1
      exact call_int1 pins s σ H _ us Q I r (.inr ⟨_, rfl, fin _ rel_int⟩)
    · cases hz
  | list =>
    simp only [fnV] at hz
    split at hz
    · rename_i x
      cases q1 : listV st x with
      | none => rw [q1] at hz; cases hz
      | some ys =>
        rw [q1] at hz; cases hz
        obtain ⟨v, rfl, h1⟩ := one_sd ra
        exact thn (list_of hK hc w h1 q1 I r fun l us' h3 h4 hl => shL w h4 h3 q hl) fun _ _ z => EP.sh z
    · cases hz
  | str =>
    simp only [fnV] at hz
    split at hz
    · split at hz
      · rename_i i hi
        cases hz
        obtain ⟨v, rfl, h1⟩ := one_sd ra
        simp only [Rel] at h1; subst h1
        have e : tx (toS i) = ((toString i : String) : Str) := by
          show tx _ = Str.ofString _
          rw [Str.ofString_eq_toList]; rfl
        have hl := hi.2
        refine call_str_int pins s σ H _ us Q I r ⟨i, rfl, ?_, by rw [← e]; exact fin _ (rel_str hl)⟩
        by_cases h0 : i.natAbs = 0
        · rw [h0]; decide
        · have h2 := (Nat.log2_lt (n := i.natAbs) (k := 300) h0).mpr hi.1
          omega
      · cases hz
    · cases hz
  | sorted =>
    simp only [fnV] at hz
    split at hz
    · rename_i x
      cases q1 : asL st x with
      | none => rw [q1] at hz; cases hz
      | some ys =>
        rw [q1] at hz
        simp only [Option.bind_some] at hz
        cases q2 : strsV ys with
        | none => rw [q2] at hz; cases hz
        | some ts =>
          rw [q2] at hz
          simp only [Option.bind_some] at hz
          split at hz
          · rename_i h64
            cases hz
            obtain ⟨a, vs, rfl, h2, h3, h4⟩ := ls x ys rfl q1
            have ev := strs_sd h4 q2
            refine thn (cr_sortedS pins s σ H _ us (Sh Q) I r ⟨a, ts.map tx, rfl, by rw [List.map_map]; rw [ev] at h2; exact h2, by rw [List.length_map]; exact h64, fun zs p pm so hp => ?_⟩) fun _ _ z => EP.sh z
            have e := sorted_is pm so
            rw [e, List.map_map]
            have rr : Rels g ρ H ((sortT ts).map .str) ((sortT ts).map (V.str ∘ tx)) := strs_rel fun t ht => (strs_len h4 q2) t ((sortT_perm ts).mem_iff.mp ht)
            exact shL w rr (by rw [List.length_map, sortT_len]; exact Nat.le_of_lt (Nat.lt_of_lt_of_le h64 (by decide))) q hp
          · cases hz
    · cases hz
  | tuple =>
    simp only [fnV] at hz
    unfold tupleV at hz
    split at hz
    · cases hz
      obtain ⟨v, rfl, h1⟩ := one_sd ra
      obtain ⟨a, vs, rfl, h2, h3, h4⟩ := tup_sd h1
      exact call_tupleT pins s σ H _ us Q I r ⟨a, vs, rfl, by rw [hK]; exact h2, fin _ h1⟩
    · rename_i x _
      cases q1 : asL st x with
      | none => rw [q1] at hz; cases hz
      | some ys =>
        rw [q1] at hz; cases hz
        obtain ⟨a, vs, rfl, h2, h3, h4⟩ := ls x ys rfl q1
        exact call_tuple_of pins s σ H _ us Q I r ⟨a, vs, rfl, .inl ⟨h2, fun l hl => q ρ _ (Ext.new hl) (w.new hl) _ (newT w h4 h3 hl)⟩⟩
    · cases hz
  | all =>
    simp only [fnV] at hz
    split at hz
    · rename_i x
      cases q1 : asL st x with
      | none => rw [q1] at hz; cases hz
      | some ys =>
        rw [q1] at hz
        simp only [Option.bind_some] at hz
        cases q2 : blsV ys with
        | none => rw [q2] at hz; cases hz
        | some ns =>
          rw [q2] at hz; cases hz
          obtain ⟨a, vs, rfl, h2, h3, h4⟩ := ls x ys rfl q1
          exact cr_all hc pins s σ H _ us Q I r ⟨a, ns, rfl, by rw [← bls_sd h4 q2]; exact h2, fin _ rel_bl⟩
    · cases hz
  | any =>
    simp only [fnV] at hz
    split at hz
    · rename_i x
      cases q1 : asL st x with
      | none => rw [q1] at hz; cases hz
      | some ys =>
        rw [q1] at hz
        simp only [Option.bind_some] at hz
        cases q2 : blsV ys with
        | none => rw [q2] at hz; cases hz
        | some ns =>
          rw [q2] at hz; cases hz
          obtain ⟨a, vs, rfl, h2, h3, h4⟩ := ls x ys rfl q1
          exact cr_any hc pins s σ H _ us Q I r ⟨a, ns, rfl, by rw [← bls_sd h4 q2]; exact h2, fin _ rel_bl⟩
    · cases hz
  | max =>
    simp only [fnV] at hz
    split at hz
    · cases hz
      obtain ⟨v, r', rfl, h1, h2⟩ := ra.cons_inv
      obtain ⟨v', rfl, h3⟩ := one_sd h2
      simp only [Rel] at h1 h3; subst h1; subst h3
      exact call_max2 hc pins s σ H _ us Q I r ⟨_, _, rfl, fin _ rel_int⟩
    · cases hz
  | min =>
    simp only [fnV] at hz
    split at hz
    · cases hz
      obtain ⟨v, r', rfl, h1, h2⟩ := ra.cons_inv
      obtain ⟨v', rfl, h3⟩ := one_sd h2
      simp only [Rel] at h1 h3; subst h1; subst h3
      exact call_min2 hc pins s σ H _ us Q I r ⟨_, _, rfl, fin _ rel_int⟩
    · cases hz
  | ssort => exact absurd rfl hf
  | dict => simp [fnV] at hz
  | lset => simp [fnV] at hz
end
end Mi
namespace Mi
open PySem L2 PySem.SeqAt PySem.W PyProof.Rows PySem.Spec PySem.Calls
open AutoSeq1 (wpAny_loadPart')
/-! x.extend(t) -/
theorem extT (T : String) (hT : T = "tuple" ∨ T = "list") (l b : Addr) (u v : Array Value) (n m : Nat) (d2 : Option Addr) (s2 : Array (Option Value)) (h0 : ¬(!u.isEmpty && Builtin.List.listTooLong (u.size + v.size)) = true) (h1 : u.size ≤ sizeLine) (h2 : u.size + v.size ≤ sizeLine + 1) :
    Meets (Builtin.«list.extend» ⟨[.ref l, .ref b], []⟩) (fun _ R s => s.heap.get? l = some ⟨.type "list", none, .seq u n, #[]⟩ ∧ s.heap.get? b = some (sqO T v m d2 s2) ∧ R (.ok (.ret Value.none)) { s with heap := s.heap.update l (Obj.mapSeq fun x => x ++ v), toks := s.toks }) := by
  rcases hT with rfl | rfl
  · exact .of_wp fun prog w A R s h => by
      obtain ⟨hp, g, d, tk, os⟩ := s
      obtain ⟨hl, hb, h⟩ := h
      have f1 := AutoSeq1.idx_int
      have f2 := AutoSeq1.sub_tuple_tuple
      have f3 := AutoSeq1.sub_list_list
      have f4 := AutoSeq1.sub_tuple_list
      have f5 := AutoSeq1.sub_list_tuple
      have hz : (u ++ v).size ≤ sizeLine + 1 := by rw [Array.size_append]; exact h2
      wp_walk using (PySem.wpAny_updateSeq hl rfl (hz := h1) (_hz' := hz)), wpAny_loadPart' hl, wpAny_loadPart' hb
      exact ⟨_, rfl, h⟩
  · exact .of_wp fun prog w A R s h => by
      obtain ⟨hp, g, d, tk, os⟩ := s
      obtain ⟨hl, hb, h⟩ := h
      have f1 := AutoSeq1.idx_int
      have f2 := AutoSeq1.sub_tuple_tuple
      have f3 := AutoSeq1.sub_list_list
      have f4 := AutoSeq1.sub_tuple_list
      have f5 := AutoSeq1.sub_list_tuple
      have hz : (u ++ v).size ≤ sizeLine + 1 := by rw [Array.size_append]; exact h2
      wp_walk using (PySem.wpAny_updateSeq hl rfl (hz := h1) (_hz' := hz)), wpAny_loadPart' hl, wpAny_loadPart' hb
      exact ⟨_, rfl, h⟩
section
variable {X : Cx}
theorem mt_extendS : MtM X "list.extend" (fun x vs H Q => ∃ l b xs zs, x = .ref l ∧ vs = [.ref b] ∧ H l = some (.lst xs) ∧ (SqT X.K H b zs ∨ SqL X.K H b zs) ∧ xs.length + zs.length ≤ sizeLine ∧ Q .non (upd H l (.lst (xs ++ zs)))) := by
  intro pins s σ H x vs v us Q I rx rv h
  obtain ⟨l, b, xs, zs, rfl, rfl, hH, hB, hz, q⟩ := h
  cases rx
  obtain ⟨u, rfl, ru⟩ := rv.one
  cases ru
  obtain ⟨z, its, n, r, hl, e⟩ := I.lstM hH
  have go : ∀ (T : String) (ws : List Value) (m : Nat) (d2 : Option Addr) (s2 : Array (Option Value)), (T = "tuple" ∨ T = "list") → s.heap.get? b = some (sqO T ws.toArray m d2 s2) → Vals zs ws → wpAny (model X.prog X.w) X.A (call (.builtin "list.extend") [.ref l, .ref b]) (EP X pins σ Q) X.xe s := by
    intro T ws m d2 s2 hT e2 r2
    have l2 := r2.length
    have hsz : its.toArray.size + ws.toArray.size ≤ sizeLine := by rw [List.size_toArray, List.size_toArray]; omega
    have long : ¬ (!its.toArray.isEmpty && Builtin.List.listTooLong (its.toArray.size + ws.toArray.size)) = true := by
      rw [notLongL hsz, Bool.and_false]; decide
    refine call_meets F.slot_list_extend ⟨_, e, rfl⟩ F.entry_list_extend (F.args_list_extend_2 _ _) (extT T hT l b its.toArray ws.toArray n m d2 s2 long (by rw [List.size_toArray]; omega) (by omega)) ⟨e, e2, ?_⟩
    refine ⟨.non, _, I.lset (its' := its ++ ws) hH e (by simp) (r.append r2) ?_, rfl, q⟩
    rw [List.length_append]; omega
  rcases hB with hB | hB
  · obtain ⟨ws, r2, pl, _⟩ := I.tuple hB
    obtain ⟨⟨c2, d2, dt2, s2⟩, o2, hc2, m2, hd2⟩ := id pl
    simp only at hc2 hd2
    subst hc2 hd2
    exact go "tuple" ws m2 d2 s2 (.inl rfl) o2 r2
  · obtain ⟨ws, r2, pl, _⟩ := I.list hB
    obtain ⟨⟨c2, d2, dt2, s2⟩, o2, hc2, m2, hd2⟩ := id pl.isList
    simp only at hc2 hd2
    subst hc2 hd2
    exact go "list" ws m2 d2 s2 (.inr rfl) o2 r2
end
section
variable {X : Cx}
theorem op_isB (yes : Bool) : OpR X (compareOp (if yes then .Is else .IsNot)) (fun x y H Q => ∃ a b, x = .bl a ∧ y = .bl b ∧ Q (.bl (if yes then a == b else !(a == b))) H) := by
  intro pins s σ H x y v u Q I rx ry h
  obtain ⟨a, b, rfl, rfl, q⟩ := h
  cases rx
  cases ry
  cases yes with
  | true =>
    have e : compareOp .Is (.bool a) (.bool b) = pure (.bool (a == b)) := by cases a <;> cases b <;> rfl
    exact wpAny_of_eq e ⟨.bl _, H, I, rfl, q⟩
  | false =>
    have e : compareOp .IsNot (.bool a) (.bool b) = pure (.bool (!(a == b))) := by cases a <;> cases b <;> rfl
    exact wpAny_of_eq e ⟨.bl _, H, I, rfl, q⟩
end
end Mi
namespace Mi
open PySem L2 PySem.SeqAt

section
variable {X : Cx} {g : Gd}
def RM (g : Gd) (m : MO) : V → List V → Hp → VK → Prop := fun x xs H Q => ∃ ρ st a as v st', Wd g ρ st H ∧ Rel g ρ H a x ∧ Rels g ρ H as xs ∧ mtV m a as st = some (v, st') ∧
  ∀ ρ' H', Ext ρ H ρ' H' → Wd g ρ' st' H' → ∀ V, Rel g ρ' H' v V → Q V H'
def moN : MO → String
  | .append => "append" | .extend => "extend" | .join => "join" | .split => "split" | .upper => "upper" | .startswith => "startswith" | .endswith => "endswith" | .replace => "replace" | .strip => "strip" | .isalnum => "isalnum" | .index => "index" | .items => "items"
def moT : MO → String
  | .append => "list" | .extend => "list" | .items => "dict" | .index => "list" | _ => "str"
def moI : MO → String
  | .append => "list.append" | .extend => "list.extend" | .join => "str.join" | .split => "str.split" | .upper => "str.upper" | .startswith => "str.startswith" | .endswith => "str.endswith" | .replace => "str.replace" | .strip => "str.strip" | .isalnum => "str.isalnum" | .index => "list.index" | .items => "dict.items"

/-! texts -/
theorem glue_foldl (sep : Txt) : ∀ (l : List Txt) (acc : Array Nat), (l.map tx).foldl (fun acc p => acc ++ (tx sep).cps ++ p.cps) acc = acc ++ (l.flatMap fun t => sep ++ t).toArray
  | [], acc => by simp
  | t :: l, acc => by
    rw [List.map_cons, List.foldl_cons, glue_foldl sep l]
    apply Array.toList_inj.mp
    simp [tx]
theorem joinT_flat (sep : Txt) : ∀ (x : Txt) (l : List Txt), joinT sep (x :: l) = x ++ l.flatMap fun t => sep ++ t
  | x, [] => by simp [joinT]
  | x, y :: l => by rw [joinT, joinT_flat sep y l]; simp
theorem join_tx (sep : Txt) (l : List Txt) : PySem.Txt.join (tx sep) (l.map tx) = tx (joinT sep l) := by
  show PySem.Builtin.Str.glued (tx sep) (l.map tx) = _
  unfold PySem.Builtin.Str.glued
  cases l with
  | nil => rfl
  | cons x l =>
    rw [List.map_cons, List.drop_one, List.tail_cons, List.headD_cons, glue_foldl, joinT_flat]
    show (⟨(tx x).cps ++ _⟩ : Str) = tx _
    simp [tx]
theorem joinT_len (sep : Txt) : ∀ l : List Txt, (joinT sep l).length ≤ (l.map (·.length)).sum + l.length * sep.length
  | [] => by simp [joinT]
  | [x] => by simp [joinT]
  | x :: y :: l => by
    have ih := joinT_len sep (y :: l)
    rw [joinT]
    simp only [List.length_append, List.map_cons, List.sum_cons, List.length_cons] at ih ⊢
    have e : (l.length + 1 + 1) * sep.length = (l.length + 1) * sep.length + sep.length := by rw [Nat.succ_mul]
    omega
theorem up_one (c : Nat) (h : 97 ≤ c ∧ c ≤ 122) : Unicode.upperOf c = [c - 32] := by
  have : ∀ k : Fin 26, Unicode.upperOf (97 + k.val) = [97 + k.val - 32] := by decide +kernel
  have q := this ⟨c - 97, by omega⟩
  simpa [show 97 + (c - 97) = c by omega] using q
theorem up_tx {s : Txt} (h : s.all (fun c => decide (97 ≤ c ∧ c ≤ 122)) = true) : PySem.Txt.upper (tx s) = tx (s.map (· - 32)) := by
  have e : ∀ (l : Txt) (n : Nat), l.all (fun c => decide (97 ≤ c ∧ c ≤ 122)) = true → ((l.mapIdx fun i c => (Unicode.upperOf c).toArray).flatMap fun a => a.toList) = l.map (· - 32) := by
    intro l n hl
    have : (l.mapIdx fun i c => (Unicode.upperOf c).toArray) = l.map fun c => (Unicode.upperOf c).toArray := by
      apply List.ext_getElem?
      intro i
      simp
    rw [this]
    induction l with
    | nil => rfl
    | cons c l ih =>
      simp only [List.all_cons, Bool.and_eq_true, decide_eq_true_eq] at hl
      rw [List.map_cons, List.flatMap_cons, List.map_cons, up_one c hl.1]
      have : (l.mapIdx fun i c => (Unicode.upperOf c).toArray) = l.map fun c => (Unicode.upperOf c).toArray := by
        apply List.ext_getElem?
        intro i
        simp
      rw [ih hl.2 this]; rfl
  unfold PySem.Txt.upper placed
  unfold tx
  congr 1
  apply Array.toList_inj.mp
  rw [Array.toList_flatten]
  have := e s 0 h
  simp only [List.mapIdx_toArray, List.map_toArray] at this ⊢
  rw [← this, ← List.flatMap_def]
theorem starts_tx (s t : Txt) : PySem.Txt.startswith (tx s) (tx t) = t.isPrefixOf s := by
  unfold PySem.Txt.startswith PySem.Builtin.Str.subAt
  rw [tx_len, tx_len, Nat.zero_add, Bool.eq_iff_iff, Bool.and_eq_true, decide_eq_true_eq, beq_iff_eq, List.isPrefixOf_iff_prefix]
  have e : (tx s).cps.extract 0 t.length = (s.take t.length).toArray := by
    unfold tx
    simp
  rw [e]
  constructor
  · rintro ⟨h1, h2⟩
    have : s.take t.length = t := by
      have := congrArg Array.toList h2
      simpa [tx] using this
    exact ⟨s.drop t.length, by
      conv => lhs; arg 1; rw [← this]
      simp⟩
  · rintro ⟨r, rfl⟩
    refine ⟨by simp, ?_⟩
    simp [tx]
theorem splitC_ne (c : Nat) : ∀ s : Txt, splitC c s ≠ []
  | [] => by simp [splitC]
  | a :: r => by
    simp only [splitC]
    split
    · simp
    · split <;> simp
theorem splitC_free (c : Nat) : ∀ s : Txt, ∀ p ∈ splitC c s, c ∉ p
  | [], p, h => by simp [splitC] at h; subst h; simp
  | a :: r, p, h => by
    have ih := splitC_free c r
    simp only [splitC] at h
    split at h
    · rcases List.mem_cons.mp h with rfl | h
      · simp
      · exact ih p h
    · rename_i ne
      split at h
      · rename_i q qs e
        rcases List.mem_cons.mp h with rfl | h
        · intro z
          rcases List.mem_cons.mp z with z | z
          · exact ne z.symm
          · exact ih q (by rw [e]; simp) z
        · exact ih p (by rw [e]; simp [h])
      · simp at h; subst h
        intro z
        simp at z
        exact ne z.symm
theorem splitC_join (c : Nat) : ∀ s : Txt, joinT [c] (splitC c s) = s
  | [] => rfl
  | a :: r => by
    have ih := splitC_join c r
    simp only [splitC]
    split
    · rename_i e
      subst e
      cases q : splitC a r with
      | nil => exact absurd q (splitC_ne a r)
      | cons p ps => rw [q] at ih; simp only [joinT, ih]; rfl
    · cases q : splitC c r with
      | nil => exact absurd q (splitC_ne c r)
      | cons p ps =>
        rw [q] at ih
        cases ps with
        | nil => simp only [joinT] at ih ⊢; rw [ih]
        | cons p2 ps => simp only [joinT, List.cons_append] at ih ⊢; rw [ih]
theorem splitC_len (c : Nat) : ∀ s : Txt, (splitC c s).length ≤ s.length + 1
  | [] => by simp [splitC]
  | a :: r => by
    have ih := splitC_len c r
    simp only [splitC]
    split
    · simp; omega
    · cases q : splitC c r with
      | nil => simp
      | cons p ps => rw [q] at ih; simp at ih ⊢; omega
theorem splitC_mem (c : Nat) : ∀ s : Txt, ∀ p ∈ splitC c s, p.length ≤ s.length
  | [], p, h => by simp [splitC] at h; subst h; simp
  | a :: r, p, h => by
    have ih := splitC_mem c r
    simp only [splitC] at h
    split at h
    · rcases List.mem_cons.mp h with rfl | h
      · simp
      · have := ih p h; simp; omega
    · cases q : splitC c r with
      | nil => rw [q] at h; simp at h; subst h; simp
      | cons p1 ps =>
        rw [q] at h
        rcases List.mem_cons.mp h with rfl | h
        · have := ih p1 (by rw [q]; simp); simp; omega
        · have := ih p (by rw [q]; simp [h]); simp; omega
theorem split_tx (c : Nat) (s : Txt) (hc : c < 256) : PySem.Txt.split (tx s) (tx [c]) = (splitC c s).map tx := by
  have e : tx s = PySem.Txt.join (tx [c]) ((splitC c s).map tx) := by rw [join_tx, splitC_join]
  have := TL.split_join (y := tx [c]) (s := c) (S := []) rfl (by simp [tx]; exact hc) (parts := (splitC c s).map tx) (by simpa using splitC_ne c s) (fun p hp => by
    obtain ⟨q, hq, rfl⟩ := List.mem_map.mp hp
    exact splitC_free c s q hq)
  rw [← e] at this
  exact this
theorem MtR.sh {id : String} {r : V → List V → Hp → VK → Prop} (h : MtR X id r) : MtR X id (fun x xs H Q => r x xs H (Sh Q)) := by
  intro pins s σ H x xs v us Q I rx rs hh
  exact thn (h pins s σ H x xs v us (Sh Q) I rx rs hh) fun _ _ z => EP.sh z
/-! methods -/
theorem mt_all (hK : X.K = g.K) (m : MO) : MtR X (moI m) (RM g m) := by
  intro pins s σ H x xs v us Q I rx rs h
  obtain ⟨ρ, st, a, as, z, st', w, ra, rs2, hz, q⟩ := h
  cases m with
  | append =>
    simp only [mtV] at hz
    split at hz
    · rename_i n y
      obtain ⟨vy, rfl, ry⟩ := one_sd rs2
      split at hz
      · rename_i ys e
        split at hz
        · rename_i hl
          cases hz
          simp only [Rel] at ra
          obtain ⟨p, rfl, hp⟩ := ra
          obtain ⟨vs, h1, h2, h3⟩ := w.ob n _ p e hp
          have e2 : Ext ρ H ρ (upd H p (.lst (vs ++ [vy]))) := Ext.write (List.mem_of_getElem? hp) (fun _ z => by rw [h1] at z; cases z) (fun _ _ z => by rw [h1] at z; cases z)
          refine mt_append pins s σ H _ _ v us Q I rx rs ⟨p, vs, vy, rfl, rfl, h1, by rw [← h3.length]; exact hl, ?_⟩
          refine q ρ _ e2 (w.write hp e2 ⟨_, upd_same, ?_, ?_⟩) _ rel_non
          · rw [List.length_append]; exact hl
          · exact (h3.append (.cons ry .nil)).ext e2
        · cases hz
      · cases hz
    · cases hz
  | join =>
    simp only [mtV] at hz
    split at hz
    · rename_i sep y
      obtain ⟨vy, rfl, ry⟩ := one_sd rs2
      split at hz
      · rename_i ts e
        split at hz
        · rename_i hl
          cases hz
          simp only [Rel] at ra
          obtain ⟨rfl, hsep⟩ := ra
          cases q1 : asL st y with
          | none => rw [q1] at e; cases e
          | some ys =>
            rw [q1] at e
            simp only [Option.bind_some] at e
            obtain ⟨p, vs, rfl, h1, h2, h3⟩ := asL_sd w ry q1
            have ev := strs_sd h3 e
            refine mt_join pins s σ H _ _ v us Q I rx rs ⟨tx sep, p, ts.map tx, rfl, rfl, .inl ?_, ?_, ?_⟩
            · rw [List.map_map, hK]; rw [ev] at h1; exact h1
            · rw [List.map_map, List.length_map, tx_len]
              have : ((fun x : Str => x.length) ∘ tx) = fun t : Txt => t.length := funext fun t => tx_len t
              rw [this]; exact hl
            · rw [join_tx]
              exact q ρ H Ext.refl w _ (rel_str (Nat.le_trans (joinT_len sep ts) (Nat.le_trans hl (by decide))))
        · cases hz
      · cases hz
    · cases hz
  | upper =>
    simp only [mtV] at hz
    split at hz
    · rename_i t
      simp only [Rels] at rs2
      subst rs2
      split at hz
      · rename_i hc
        cases hz
        simp only [Rel] at ra
        obtain ⟨rfl, hl⟩ := ra
        refine mt_upper pins s σ H _ _ v us Q I rx rs ⟨tx t, rfl, rfl, by rw [tx_len]; exact hc.2, ?_⟩
        rw [up_tx hc.1]
        exact q ρ H Ext.refl w _ (rel_str (by rw [List.length_map]; exact hl))
      · cases hz
    · cases hz
  | startswith =>
    simp only [mtV] at hz
    split at hz
    · rename_i t t2
      obtain ⟨vy, rfl, ry⟩ := one_sd rs2
      cases hz
      simp only [Rel] at ra ry
      obtain ⟨rfl, hl⟩ := ra
      obtain ⟨rfl, hl2⟩ := ry
      refine mt_startswith pins s σ H _ _ v us Q I rx rs ⟨tx t, tx t2, rfl, rfl, ?_⟩
      rw [starts_tx]
      exact q ρ H Ext.refl w _ rel_bl
    · cases hz
  | extend =>
    simp only [mtV] at hz
    split at hz
    · rename_i n y
      obtain ⟨vy, rfl, ry⟩ := one_sd rs2
      split at hz
      · rename_i ys e
        split at hz
        · rename_i zs ez
          split at hz
          · rename_i hl
            cases hz
            simp only [Rel] at ra
            obtain ⟨p, rfl, hp⟩ := ra
            obtain ⟨vs, h1, h2, h3⟩ := w.ob n _ p e hp
            have sq : ∃ b ws, vy = .ref b ∧ (SqT X.K H b ws ∨ SqL X.K H b ws) ∧ Rels g ρ H zs ws := by
              cases y with
              | tup ts =>
                simp only [asS, Option.some.injEq] at ez
                subst ez
                obtain ⟨b, ws, e1, k1, _, k3⟩ := tup_sd ry
                exact ⟨b, ws, e1, .inl (hK ▸ k1), k3⟩
              | _ =>
                obtain ⟨b, ws, e1, k1, _, k3⟩ := asL_sd w ry ez
                exact ⟨b, ws, e1, .inr (hK ▸ k1), k3⟩
            obtain ⟨b, ws, rfl, k1, k3⟩ := sq
            have e2 : Ext ρ H ρ (upd H p (.lst (vs ++ ws))) := Ext.write (List.mem_of_getElem? hp) (fun _ z => by rw [h1] at z; cases z) (fun _ _ z => by rw [h1] at z; cases z)
            have hl2 : vs.length + ws.length ≤ sizeLine := by rw [← h3.length, ← k3.length]; exact hl
            refine mt_extendS pins s σ H _ _ v us Q I rx rs ⟨p, b, vs, ws, rfl, rfl, h1, k1, hl2, ?_⟩
            refine q ρ _ e2 (w.write hp e2 ⟨_, upd_same, ?_, ?_⟩) _ rel_non
            · rw [List.length_append]; exact hl
            · exact (h3.append k3).ext e2
          · cases hz
        · cases hz
      · cases hz
    · cases hz
  | split =>
    simp only [mtV] at hz
    split at hz
    · rename_i t c
      obtain ⟨vy, rfl, ry⟩ := one_sd rs2
      split at hz
      · rename_i hc
        cases hz
        simp only [Rel] at ra ry
        obtain ⟨rfl, hl⟩ := ra
        obtain ⟨rfl, hl2⟩ := ry
        refine MtR.sh mt_split pins s σ H _ _ v us Q I rx rs ⟨tx t, tx [c], rfl, rfl, rfl, by rw [tx_len]; exact hc.2, fun p hp => ?_⟩
        rw [split_tx c t hc.1, List.map_map]
        have hl3 : ((splitC c t).map Val.str).length ≤ sizeLine := by
          have := splitC_len c t
          rw [List.length_map]; omega
        exact shL w (strs_rel fun z hz => Nat.le_trans (splitC_mem c t z hz) hl) hl3 q hp
      · cases hz
    · cases hz
  | _ => simp [mtV] at hz
theorem mtOk_ty (hK : X.K = g.K) {ρ : List Addr} {st : Store} {H : Hp} {m : MO} {x : Val} {v : V} (w : Wd g ρ st H) (r : Rel g ρ H x v) (h : mtOk m x st = true) (hm : m ≠ .items ∧ m ≠ .index) : tyV X.K (moT m) v H := by
  have str : ∀ t, x = .str t → moT m = "str" → tyV X.K (moT m) v H := fun t e em => by
    subst e
    simp only [Rel] at r
    obtain ⟨rfl, _⟩ := r
    exact em
  have lst : ∀ n, x = .loc n → (match st[n]? with | some (.lst _) => true | _ => false) = true → moT m = "list" → tyV X.K (moT m) v H := fun n e h2 em => by
    subst e
    simp only [Rel] at r
    obtain ⟨a, rfl, hp⟩ := r
    split at h2
    · rename_i xs e
      obtain ⟨vs, h1, _⟩ := w.ob n _ a e hp
      exact .inl ⟨em, vs, .inl (.inl h1)⟩
    · cases h2
  cases m <;> cases x <;> simp only [mtOk, Bool.false_eq_true] at h <;> first
    | exact str _ rfl rfl
    | exact lst _ rfl h rfl
    | exact absurd rfl hm.1
    | exact absurd rfl hm.2
theorem mo_plain : ∀ m : MO, PlainAttrs (moT m)
  | .append => PySem.F.plainAttrs_list
  | .extend => PySem.F.plainAttrs_list
  | .join => PySem.F.plainAttrs_str
  | .split => PySem.F.plainAttrs_str
  | .upper => PySem.F.plainAttrs_str
  | .startswith => PySem.F.plainAttrs_str
  | .endswith => PySem.F.plainAttrs_str
  | .replace => PySem.F.plainAttrs_str
  | .strip => PySem.F.plainAttrs_str
  | .isalnum => PySem.F.plainAttrs_str
  | .index => PySem.F.plainAttrs_list
  | .items => PySem.F.plainAttrs_dict
theorem mo_slot : ∀ (m : MO), m ≠ .items ∧ m ≠ .index → Slot (moT m) (moN m) (moI m)
  | .append, _ => PySem.F.slot_list_append
  | .extend, _ => PySem.F.slot_list_extend
  | .join, _ => PySem.F.slot_str_join
  | .split, _ => PySem.F.slot_str_split
  | .upper, _ => PySem.F.slot_str_upper
  | .startswith, _ => PySem.F.slot_str_startswith
  | .endswith, _ => PySem.F.slot_str_endswith
  | .replace, _ => PySem.F.slot_str_replace
  | .strip, _ => PySem.F.slot_str_strip
  | .isalnum, _ => PySem.F.slot_str_isalnum
  | .items, h => absurd rfl h.1
  | .index, h => absurd rfl h.2
theorem mo_type : ∀ (m : MO), m ≠ .items ∧ m ≠ .index → typeOf (.builtin (moI m)) = pure (.type "method_descriptor")
  | .append, _ => PySem.F.type_list_append
  | .extend, _ => PySem.F.type_list_extend
  | .join, _ => PySem.F.type_str_join
  | .split, _ => PySem.F.type_str_split
  | .upper, _ => PySem.F.type_str_upper
  | .startswith, _ => PySem.F.type_str_startswith
  | .endswith, _ => PySem.F.type_str_endswith
  | .replace, _ => PySem.F.type_str_replace
  | .strip, _ => PySem.F.type_str_strip
  | .isalnum, _ => PySem.F.type_str_isalnum
  | .items, h => absurd rfl h.1
  | .index, h => absurd rfl h.2

/-! slices -/
theorem cut_len {α : Type} (xs : List α) (lo hi : Option Int) : (cut xs lo hi).length ≤ xs.length := by
  unfold cut
  rw [List.length_take, List.length_drop]
  omega
theorem Rels.cut {ρ : List Addr} {H : Hp} {xs : List Val} {vs : List V} (h : Rels g ρ H xs vs) (lo hi : Option Int) : Rels g ρ H (Mi.cut xs lo hi) (cutV vs lo hi) := by
  unfold Mi.cut cutV
  rw [h.length]
  exact (h.drop _).take _
def RS (g : Gd) : V → Option Int → Option Int → Hp → VK → Prop := fun x lo hi H Q => ∃ ρ st a v, Wd g ρ st H ∧ Rel g ρ H a x ∧ slV st a lo hi = some v ∧
  ∀ ρ' H', Ext ρ H ρ' H' → Wd g ρ' st H' → ∀ V, Rel g ρ' H' v V → Q V H'
theorem SlR.sh {r : V → Option Int → Option Int → Hp → VK → Prop} (h : SlR X r) : SlR X (fun x lo hi H Q => r x lo hi H (Sh Q)) := by
  intro pins s σ H x v vl vu lo hi sl Q I rx hs pl pu hh
  obtain ⟨T, id, h1, h2, h3⟩ := h pins s σ H x v vl vu lo hi sl (Sh Q) I rx hs pl pu hh
  exact ⟨T, id, h1, h2, thn h3 fun _ _ z => EP.sh z⟩
theorem sl_all (hK : X.K = g.K) : SlR X (RS g) := by
  intro pins s σ H x v vl vu lo hi sl Q I rx hs pl pu h
  obtain ⟨ρ, st, a, z, w, ra, hz, q⟩ := h
  unfold slV at hz
  split at hz
  · rename_i t
    cases hz
    simp only [Rel] at ra
    obtain ⟨rfl, hl⟩ := ra
    refine sl_str pins s σ H _ v vl vu lo hi sl Q I rx hs pl pu ⟨tx t, rfl, by rw [tx_len]; exact hl, ?_⟩
    have e : cutS (tx t) lo hi = tx (cut t lo hi) := by
      unfold cutS cut tx
      simp only [Str.length, List.size_toArray]
    rw [e]
    exact q ρ H Ext.refl w _ (rel_str (Nat.le_trans (cut_len _ _ _) hl))
  · rename_i t
    cases hz
    obtain ⟨p, vs, rfl, h1, h2, h3⟩ := tup_sd ra
    refine sl_tupA pins s σ H _ v vl vu lo hi sl Q I rx hs pl pu ⟨p, vs, rfl, hK ▸ h1, fun hw => ?_, fun hw l hl => ?_⟩
    · have e : cut t lo hi = t := by
        unfold cut
        rw [h3.length, hw.1, hw.2]
        simp [← h3.length]
      rw [e] at q
      exact q ρ H Ext.refl w _ ra
    · exact q ρ _ (Ext.new hl) (w.new hl) _ (newT w (h3.cut lo hi) (Nat.le_trans (cut_len _ _ _) h2) hl)
  · cases q1 : asL st a with
    | none => rw [q1] at hz; cases hz
    | some ys =>
      rw [q1] at hz
      cases hz
      obtain ⟨p, vs, rfl, h1, h2, h3⟩ := asL_sd w ra q1
      exact SlR.sh sl_list pins s σ H _ v vl vu lo hi sl Q I rx hs pl pu ⟨p, vs, rfl, hK ▸ h1, fun l hl => shL w (h3.cut lo hi) (Nat.le_trans (cut_len _ _ _) h2) q hl⟩

/-! isinstance -/
def tyS : TyN → String
  | .int => "int" | .str => "str" | .bool => "bool" | .list => "list" | .tuple => "tuple" | .dict => "dict"
def vTy : Val → String
  | .non => "NoneType" | .bl _ => "bool" | .int _ => "int" | .str _ => "str" | .tup _ => "tuple" | .lst _ => "list" | .dct _ _ => "dict" | .loc _ => ""
theorem ty_sd (hK : X.K = g.K) {ρ : List Addr} {H : Hp} {x : Val} {v : V} (r : Rel g ρ H x v) (h : ∀ n, x ≠ .loc n) : TyX X.K H v (.type (vTy x)) := by
  cases x with
  | non => simp only [Rel] at r; subst r; exact .base .non
  | bl b => simp only [Rel] at r; subst r; exact .base (.bl _)
  | int b => simp only [Rel] at r; subst r; exact .base (.int _)
  | str b => simp only [Rel] at r; obtain ⟨rfl, _⟩ := r; exact .base (.str _)
  | tup xs =>
    simp only [Rel] at r
    obtain ⟨a, vs, rfl, h1, _⟩ := r
    rcases h1 with h1 | ⟨o, its, n, h1, h2, _⟩
    · exact .base (.tup h1)
    · exact .kTuple (by rw [hK]; exact h1) h2
  | lst xs =>
    simp only [Rel] at r
    obtain ⟨a, vs, rfl, h1, _⟩ := r
    rcases h1 with ⟨o, h1⟩ | ⟨o, its, n, h1, h2, _⟩
    · exact .base (.frz h1)
    · exact .kList (by rw [hK]; exact h1) h2
  | dct ks xs =>
    simp only [Rel] at r
    obtain ⟨a, vs, rfl, ⟨o, h1⟩, _⟩ := r
    exact .fDict h1
  | loc n => exact absurd rfl (h n)
theorem isi_kit (t : TyN) (x : Val) (b : Bool) (h : isiV t x = some b) : (∀ n, x ≠ .loc n) ∧ kitB (vTy x) (tyS t) = some b := by
  cases x with
  | loc n => cases t <;> simp [isiV] at h
  | _ =>
    refine ⟨(fun _ z => nomatch z), ?_⟩
    cases t <;> simp only [isiV, Option.some.injEq] at h <;> subst h <;> (simp only [vTy, tyS]; decide +kernel)
theorem isi_all (hK : X.K = g.K) (t : TyN) : CallR X (.builtin "isinstance") (fun xs H Q => ∃ ρ st a v x, Wd g ρ st H ∧ Rel g ρ H a x ∧ xs = [x, .ty (tyS t)] ∧ isiV t a = some v ∧ Q (.bl v) H) := by
  intro pins s σ H xs us Q I r h
  obtain ⟨ρ, st, a, b, x, w, ra, rfl, hb, q⟩ := h
  obtain ⟨h1, h2⟩ := isi_kit t a b hb
  exact call_isi pins s σ H _ us Q I r ⟨x, .ty (tyS t), _, _, b, rfl, .ty _, ty_sd hK ra h1, kit_ty h2, q⟩
end
end Mi
namespace Mi
open PySem L2 PySem.Spec PyProof.Rows

/-! sets of texts: what stands in them, up to the order -/
def kT (e : Int × Value) : Txt := match e.2 with
  | .str z _ => z.cps.toList
  | _ => []
def ElT (w : World) (e : Int × Value) : Prop := ∃ z k, e = (hashStr w z, Value.str z k)
structure TabT (w : World) (ks : List Txt) (es : Array (Int × Value)) (t : SetTable) : Prop where
  el : ∀ e ∈ es.toList, ElT w e
  pm : (es.toList.map kT).Perm ks
  nd : ks.Nodup
  few : ks.length < scanBound
  fit : t.fits es.size = true
  ris : L2.Ris t.place.toList
  led : w.params.followText "set-order" = true ∨ t.led = true
def SetTx (w : World) (h : Heap) (a : Addr) (ks : List Txt) : Prop := ∃ o es ep t, h.get? a = some o ∧ o.ExactSet ∧ o.data = .set es ep t ∧ TabT w ks es t
section
variable {P : Program} {w : World} {ks : List Txt} {es : Array (Int × Value)} {t : SetTable}
theorem TabT.sz (T : TabT w ks es t) : es.size = ks.length := by
  have := T.pm.length_eq
  rwa [List.length_map, Array.length_toList] at this
theorem TabT.elems (T : TabT w ks es t) : ElemsOf (PySem.strKind P w) es.toList := fun e he => by
  obtain ⟨z, k, rfl⟩ := T.el e he
  exact ⟨⟨z, strKind_is P w z k, rfl⟩, rfl⟩
theorem kT_is {e : Int × Value} (h : ElT w e) (z : Str) : (PySem.strKind P w).is z e.2 = true ↔ kT e = z.cps.toList := by
  obtain ⟨y, k, rfl⟩ := h
  constructor
  · intro q
    obtain ⟨k', q'⟩ := Value.isStrOf_shape (show Value.isStrOf z (Value.str y k) = true from q)
    injection q' with q1
    show y.cps.toList = _
    rw [q1]
  · intro q
    have e : y = z := by
      have q : y.cps.toList = z.cps.toList := q
      rw [← tx_of y, ← tx_of z, q]
    subst e
    exact strKind_is P w y k
theorem SetTx.at {h h' : Heap} {a : Addr} (R : SetTx w h a ks) (k : ∀ o, h.get? a = some o → h'.get? a = some o) : SetTx w h' a ks := by
  obtain ⟨o, es, ep, t, h1, h2⟩ := R
  exact ⟨o, es, ep, t, k o h1, h2⟩
/-- the table behind a store -/
theorem put_tab {h : Heap} {a : Addr} {o : Obj} {es es' : Array (Int × Value)} {ep : Nat} {t t' : SetTable} (ho : h.get? a = some o) (hx : o.ExactSet) (hd : o.data = .set es ep t) (T : TabT w ks es' t') :
    SetTx w (h.update a (Obj.putSet es' t')) a ks := ⟨_, es', ep + 1, t', L2.store_at ho hd, hx, rfl, T⟩
end
section
variable {P : Program} {w : World} {A : Around} {E : Value → Shared → Prop} {s : Shared} {a : Addr} {ks : List Txt}
/-- the end of an add: the new table is stored, and laid anew where it is too full -/
theorem tail_tab {gv : Bool → Sem Unit} (hg : ∀ (b : Bool) (s1 : Shared) (Q1 : Unit → Shared → Prop), Q1 () s1 → wpAny (model P w) A (gv b) Q1 E s1) {o : Obj} {es es1 : Array (Int × Value)} {ep : Nat} {t t1 : SetTable}
    (ho : s.heap.get? a = some o) (hx : o.ExactSet) (hd : o.data = .set es ep t) (T : TabT w ks es1 t1) {wd : Bool} {R : Option Bool → Shared → Prop} (hR : ∀ h1, Heap.SameBut a s.heap h1 → SetTx w h1 a ks → R (some true) { s with heap := h1 }) :
    wpAny (model P w) A (do
      storeSet a es1 t1
      if (!wd && t1.tooFull) = true then do
          gv (relayAll t1 es1 (SetTable.grown es1.size)).2.2
          storeSet a (relayAll t1 es1 (SetTable.grown es1.size)).1 (relayAll t1 es1 (SetTable.grown es1.size)).2.1
          pure (some true)
        else pure (some true)) R E s := by
  have few : es1.size < scanBound := by rw [T.sz]; exact T.few
  refine wpAny_bind (wpAny_storeSet_of ho hd ?_ (fits_of_scanBound few))
  have at1 : (s.heap.update a (Obj.putSet es1 t1)).get? a = some { o with data := .set es1 (ep + 1) t1 } := L2.store_at ho hd
  have same1 := Heap.SameBut.update s.heap a (Obj.putSet es1 t1)
  split
  · have p1 := relayAll_perm t1 es1 (SetTable.grown es1.size)
    have p2 := relayAll_fits t1 es1 (SetTable.grown es1.size)
    have p3 := L2.relayAll_ris t1 es1 (SetTable.grown es1.size)
    have p4 := L2.relayAll_led t1 es1 (SetTable.grown es1.size)
    generalize relayAll t1 es1 (SetTable.grown es1.size) = Y at p1 p2 p3 p4 ⊢
    obtain ⟨es2, t2, gave⟩ := Y
    dsimp only at p1 p2 p3 p4 ⊢
    have T2 : TabT w ks es2 t2 := ⟨fun e he => T.el e (p1.mem_iff.mp he), (p1.map kT).trans T.pm, T.nd, T.few, p2, p3, T.led.imp id fun z => by rw [p4]; exact z⟩
    have few2 : es2.size < scanBound := by rw [T2.sz]; exact T2.few
    refine wpAny_bind (hg _ _ _ (wpAny_bind (wpAny_storeSet_of at1 rfl (wpAny_pure (hR _ (same1.trans (Heap.SameBut.update _ a _)) ?_)) (fits_of_scanBound few2))))
    exact put_tab at1 hx rfl T2
  · exact wpAny_pure (hR _ same1 (put_tab ho hx hd T))
def addT (k : Txt) (ks : List Txt) : List Txt := if k ∈ ks then ks else k :: ks
theorem add_tab {z : Str} {tk : Tok} {Q : Bool → Shared → Prop} (R : SetTx w s.heap a ks) (room : ks.length + 1 < scanBound)
    (hQ : ∀ b h1, Heap.SameBut a s.heap h1 → SetTx w h1 a (addT z.cps.toList ks) → Q b { s with heap := h1 }) :
    wpAny (model P w) A (setAddHashed a (.str z tk) ((PySem.strKind P w).hash z)) Q E s := by
  obtain ⟨o, es, ep, t, ho, hx, hd, T⟩ := R
  have isz : (PySem.strKind P w).is z (.str z tk) = true := strKind_is P w z tk
  have sc : (Value.str z tk).scannable = true := rfl
  have few : es.size < scanBound := by rw [T.sz]; exact T.few
  unfold setAddHashed setAddHashedIn
  refine wpAny_holding (wpAny_bind (wpAny_setState_of ho hd T.fit ?_))
  dsimp only
  rw [byScan_of sc few (T.elems (P := P))]
  simp only [↓reduceIte]
  unfold setAddByScan
  refine wpAny_bind (wpAny_bind (wpAny_rule (wpAny_bind (wpAny_setScan_of isz ho hd T.fit (T.elems (P := P)) ?_))))
  cases found : List.findIdx? (fun e => (PySem.strKind P w).is z e.2) es.toList with
  | some j =>
    dsimp only
    obtain ⟨hj, pj, _⟩ := List.findIdx?_eq_some_iff_getElem.mp found
    have mem : z.cps.toList ∈ ks := T.pm.mem_iff.mp (List.mem_map.mpr ⟨es.toList[j], List.getElem_mem hj, (kT_is (T.el _ (List.getElem_mem hj)) z).mp pj⟩)
    refine wpAny_pure (wpAny_pure (hQ _ s.heap (Heap.SameBut.refl a s.heap) ?_))
    rw [addT, if_pos mem]
    exact ⟨o, es, ep, t, ho, hx, hd, T⟩
  | none =>
    dsimp only
    have nmem : z.cps.toList ∉ ks := fun m => by
      obtain ⟨e, he, q⟩ := List.mem_map.mp (T.pm.mem_iff.mpr m)
      have c := List.findIdx?_eq_none_iff.mp found e he
      rw [(kT_is (T.el e he) z).mpr q] at c
      cases c
    have quiet : ∀ (b : Bool) {s1 : Shared} {Q1 : Unit → Shared → Prop}, Q1 () s1 → wpAny (model P w) A (match b with | true => rule "set.scan.the-table-gave-way" | false => pure ()) Q1 E s1 := fun b s1 Q1 q => by
      cases b
      · exact wpAny_pure q
      · exact wpAny_rule q
    have p1 := layNew_perm t es ((PySem.strKind P w).hash z) (.str z tk)
    have p2 := layNew_fits t es ((PySem.strKind P w).hash z) (.str z tk)
    have p3 := L2.layNew_ris t es ((PySem.strKind P w).hash z) (.str z tk) T.ris
    have p4 := L2.layNew_led t es ((PySem.strKind P w).hash z) (.str z tk)
    generalize layNew t es ((PySem.strKind P w).hash z) (.str z tk) = Y at p1 p2 p3 p4 ⊢
    obtain ⟨es1, t1, wd, gave⟩ := Y
    dsimp only at p1 p2 p3 p4 ⊢
    rw [Array.toList_push] at p1
    have pc : es1.toList.Perm (((PySem.strKind P w).hash z, Value.str z tk) :: es.toList) := p1.trans (List.perm_append_singleton _ _)
    have T1 : ∀ t2 : SetTable, t2.fits es1.size = true → L2.Ris t2.place.toList → (w.params.followText "set-order" = true ∨ t2.led = true) → TabT w (addT z.cps.toList ks) es1 t2 := fun t2 q1 q2 q3 => by
      rw [addT, if_neg nmem]
      refine ⟨fun e he => ?_, (pc.map kT).trans (T.pm.cons _), List.nodup_cons.mpr ⟨nmem, T.nd⟩, room, q1, q2, q3⟩
      rcases List.mem_cons.mp (pc.mem_iff.mp he) with q | q
      · rw [q]; exact ⟨z, tk, rfl⟩
      · exact T.el e q
    have hl : w.params.followText "set-order" = true ∨ t1.led = true := T.led.imp id fun q => by rw [p4]; exact q
    refine wpAny_bind (quiet _ ?_)
    split
    · refine wpAny_bind ?_
      rw [hashByValue_scannable 8 sc]
      refine wpAny_pure ?_
      refine tail_tab (ks := addT z.cps.toList ks) (fun b s1 Q1 q => by cases b <;> first | exact wpAny_pure q | exact wpAny_rule q) ho hx hd (T1 _ ?_ ?_ ?_) fun h1 sb r => ?_
      · first | (split <;> first | exact p2 | exact SetTable.fits_plain_off p2) | exact p2
      · first | (split <;> exact p3) | exact p3
      · first | (split <;> exact hl) | exact hl
      · dsimp only; exact wpAny_pure (hQ _ h1 sb r)
    · refine wpAny_bind (wpAny_pure ?_)
      simp only [↓reduceIte]
      refine tail_tab (ks := addT z.cps.toList ks) (fun b s1 Q1 q => by cases b <;> first | exact wpAny_pure q | exact wpAny_rule q) ho hx hd (T1 _ p2 p3 hl) fun h1 sb r => ?_
      dsimp only; exact wpAny_pure (hQ _ h1 sb r)
end
end Mi
namespace Mi
open PySem L2 PySem.Spec PyProof.Rows

section
variable {P : Program} {w : World} {A : Around} {E : Value → Shared → Prop} {s : Shared} {a : Addr} {ks : List Txt}
theorem strs_values : ∀ (vs : List Value), (∀ v ∈ vs, ∃ z k, v = Value.str z k) → ∃ zs : List Str, StrsAre vs zs ∧ zs.map (fun z => z.cps.toList) = vs.map fun v => kT (0, v)
  | [], _ => ⟨[], .nil, rfl⟩
  | v :: vs, h => by
    obtain ⟨z, k, rfl⟩ := h v List.mem_cons_self
    obtain ⟨zs, h1, h2⟩ := strs_values vs fun u hu => h u (List.mem_cons_of_mem _ hu)
    exact ⟨z :: zs, .cons z k h1, by rw [List.map_cons, List.map_cons, h2]; rfl⟩
/-- sorted(a set of texts) -/
theorem sorted_tab {Q : Value → Shared → Prop} (R : SetTx w s.heap a ks) (hh : A.handled = none) (h64 : ks.length < 64)
    (hQ : ∀ s1 p (out : Array Value) (c : Nat), (∀ b o, s.heap.get? b = some o → s1.heap.get? b = some o) → s1.gens = s.gens → s1.os = s.os → s.heap.objs.size ≤ p → s1.heap.get? p = some (seqObj "list" out c) →
      StrsAre out.toList ((sortT ks).map tx) → Q (.ref p) s1) : wpAny (model P w) A (call (.builtin "sorted") [.ref a]) Q E s := by
  obtain ⟨o, es, ep, t, ho, hx, hd, T⟩ := R
  refine Calls.call_function_entry kind_sorted plain_sorted entry_sorted (args_sorted1 _) ?_
  unfold Builtin.«sorted»
  refine wpAny_bind (m := checkCount "sorted" 1 1 _) (wpAny_pure ?_)
  refine wpAny_bind (L2.collect_set (A := A.in1) hh ⟨o, ho, hx.1, hd⟩ T.fit (by rw [T.sz]; exact T.few) T.ris T.led fun s1 vs keep big hg hos pm => ?_)
  have many : vs.length = ks.length := by rw [pm.length_eq, List.length_map, Array.length_toList, T.sz]
  obtain ⟨zs, S, ez⟩ := strs_values vs fun v hv => by
    obtain ⟨e, he, rfl⟩ := List.mem_map.mp (pm.mem_iff.mp hv)
    obtain ⟨z, k, rfl⟩ := T.el e he
    exact ⟨z, k, rfl⟩
  have zk : (zs.map fun z => z.cps.toList).Perm ks := by
    have p := pm.map fun v => kT (0, v)
    rw [List.map_map] at p
    rw [ez]
    exact p.trans T.pm
  refine wpAny_bind (wpAny_newList ?_ (by rw [many, sizeLine_eq]; omega))
  have atL : (s1.heap.push (seqObj "list" vs.toArray 0)).get? s1.heap.objs.size = some (seqObj "list" vs.toArray 0) := Heap.get?_push_size _ rfl
  refine wpAny_bind (wpAny_holding (wpAny_call_entry slot_list_sort ⟨_, atL, rfl⟩ entry_list_sort
    (list_sort_treeK strKind_oneLt atL S.keysOf (fun v1 v2 rest e => keyKind_strs (by rw [← e]; exact S)) (by rw [many]; exact h64) fun st1 hp hs => ⟨_, rfl, ?_⟩) (args_list_sort _)))
  obtain ⟨ys, y1, y2, y3⟩ := sorted_out_str S hp hs
  obtain ⟨c, hc⟩ := sortedHeap_at (vs := vs) (out := (arrOf st1).map (·.2)) atL
  have yk : ys = (sortT ks).map tx := by
    refine sorted_is ?_ y3
    have p2 : (zs.map fun z => tx z.cps.toList).Perm (ks.map tx) := by
      have := zk.map tx
      rwa [List.map_map] at this
    rw [map_tx_inv] at p2
    exact y2.trans p2
  rw [yk] at y1
  refine wpAny_pure ⟨_, rfl, hQ _ s1.heap.objs.size _ c (fun b u e => ?_) hg hos big hc y1⟩
  have q := keep b u e
  have lt := Heap.lt_size q
  show (sortedHeap (s1.heap.push (seqObj "list" vs.toArray 0)) s1.heap.objs.size vs _).get? b = some u
  rw [sortedHeap_old (Nat.ne_of_lt lt) (by rw [size_push']; exact Nat.lt_succ_of_lt lt)]
  exact Heap.get?_push_of_some _ q
end

/-! over the layer -/
def SetX (w : World) (a : Addr) (ks : List Txt) : HO := .ext fun h => SetTx w h a ks
section
variable {X : Cx}
theorem setX_new {P : Program} {w : World} {H : Hp} {h : Heap} {a : Addr} {ks : List Txt} (R : SetTx w h a ks) : ObjOk P w H h a (SetX w a ks) := by
  have ⟨o, _, _, _, ho, _⟩ := R
  exact ⟨R, ⟨o, ho⟩, fun _ _ p k => p.at k⟩
theorem call_sortedT (hc : X.calm = true) : CallR X (.builtin "sorted") (fun xs H Q => ∃ a ks, xs = [.ref a] ∧ H a = some (SetX X.w a ks) ∧ ks.length < 64 ∧ ∀ p, H p = none → Q (.ref p) (upd H p (.lst ((sortT ks).map (V.str ∘ tx))))) := by
  intro pins s σ H xs us Q I r h
  obtain ⟨a, ks, rfl, ha, h64, q⟩ := h
  rw [Vals.ref1 r]
  have R : SetTx X.w s.heap a ks := (I.hok a _ ha).1
  refine sorted_tab R (I.ok.hd hc) h64 fun s1 p out c keep hg hos hp hat hs => ?_
  have few : ((sortT ks).map (V.str ∘ tx)).length ≤ sizeLine := by rw [List.length_map, sortT_len, sizeLine_eq]; omega
  have new : H p = none := I.hok.fresh hp
  have J : Inv X pins σ (upd H p (.lst ((sortT ks).map (V.str ∘ tx)))) { s with heap := s1.heap, gens := s1.gens, drawn := s1.drawn, toks := s1.toks } := by
    refine I.call (ch := []) (Un.laid keep hp new) (I.hok.laid keep hp ⟨few, out.toList, c, ?_, hat⟩) (by rw [hg]; exact I.bare) (fun _ z => nomatch z)
    have := vals_of_strs hs
    rwa [List.map_map] at this
  have e : s1 = { s with heap := s1.heap, gens := s1.gens, drawn := s1.drawn, toks := s1.toks } := by
    cases s1
    cases s
    cases hos
    rfl
  rw [e]
  exact ⟨.ref p, _, J, rfl, q p new⟩
end
end Mi
namespace Mi
open PySem L2 PySem.Spec PyProof.Rows

def addAll : List Txt → List Txt → List Txt
  | [], ks => ks
  | t :: ts, ks => addAll ts (addT t ks)
theorem addT_len (k : Txt) (ks : List Txt) : (addT k ks).length ≤ ks.length + 1 := by
  unfold addT; split <;> simp
theorem addT_mem (k : Txt) (ks : List Txt) (z : Txt) : z ∈ addT k ks ↔ z = k ∨ z ∈ ks := by
  unfold addT
  split
  · rename_i h
    exact ⟨.inr, fun q => q.elim (fun e => by rw [e]; exact h) id⟩
  · exact List.mem_cons
theorem addAll_mem : ∀ (ts ks : List Txt) (z : Txt), z ∈ addAll ts ks ↔ z ∈ ts ∨ z ∈ ks
  | [], ks, z => by simp [addAll]
  | t :: ts, ks, z => by
    rw [addAll, addAll_mem ts, addT_mem, List.mem_cons]
    constructor
    · rintro (h | h | h)
      · exact .inl (.inr h)
      · exact .inl (.inl h)
      · exact .inr h
    · rintro ((h | h) | h)
      · exact .inr (.inl h)
      · exact .inl h
      · exact .inr (.inr h)
theorem addT_nodup {k : Txt} {ks : List Txt} (h : ks.Nodup) : (addT k ks).Nodup := by
  unfold addT
  split
  · exact h
  · rename_i q; exact List.nodup_cons.mpr ⟨q, h⟩
theorem addAll_nodup : ∀ (ts : List Txt) {ks : List Txt}, ks.Nodup → (addAll ts ks).Nodup
  | [], _, h => h
  | t :: ts, _, h => addAll_nodup ts (addT_nodup h)
theorem addAll_len : ∀ (ts ks : List Txt), (addAll ts ks).length ≤ ks.length + ts.length
  | [], ks => by simp [addAll]
  | t :: ts, ks => by
    have h1 := addAll_len ts (addT t ks)
    have h2 := addT_len t ks
    rw [addAll, List.length_cons]; omega
theorem sort_addAll (ts : List Txt) : sortT (addAll ts []) = sortU ts := by
  refine sort_uniq (sortT_sorted _) (lt_le (sortU_sorted ts)) ?_
  refine (sortT_perm _).trans ?_
  rw [List.perm_ext_iff_of_nodup (addAll_nodup ts List.nodup_nil) (lt_nodup (sortU_sorted ts))]
  intro z
  rw [addAll_mem, sortU_mem]; simp

section
variable {prog : Program} {w : World} {A : Around} {R : Result → Shared → Prop} {I : Addr} {fp wr : List Addr} {G : Array GenState → Array GenState → Prop} {n : Nat} {Pv : Nat → Value → Prop} {St : Nat → Shared → Prop}
/-- the loop that fills a set -/
theorem fill_tab (W : WalksS prog w A.in1 I fp wr G n Pv St) (S : Addr) (nf : S ∉ fp) (ts : List Txt) (hn : ts.length = n) (small : n + 1 < scanBound)
    (val : ∀ i v, Pv i v → ∃ z k, v = .str z k ∧ ts[i]? = some z.cps.toList) :
    ∀ (k i : Nat) (ks : List Txt) (s : Shared), n - i = k → i ≤ n → ks.length ≤ i → St i s → SetTx w s.heap S ks →
      (∀ s1, Moved (S :: wr) G s s1 → SetTx w s1.heap S (addAll (ts.drop i) ks) → R (.ok (.ret .none)) s1) →
      codeAny (model prog w) A (.builtin "set.update.loop" ⟨[.ref S, .ref I], []⟩) R s := by
  have nw : S ∉ wr := fun h => nf (W.sub _ h)
  have more : ∀ b ∈ wr, b ∈ S :: wr := fun b hb => List.mem_cons_of_mem _ hb
  intro k
  induction k with
  | zero =>
    intro i ks s hk hi hl at_ T hR
    have e : i = n := by omega
    subst e
    refine codeAny_builtin PyProof.Rows.F.entry_set_update_loop ?_
    rw [Around.under_plainId PyProof.Rows.F.plain_set_update_loop _]
    show wpAny _ A.in1 (pyNext (.ref I) >>= _) _ _ s
    refine wpAny_bind (W.done s _ _ at_ fun s1 mv => ?_)
    show wpAny _ A.in1 (ret Value.none) _ _ s1
    refine wpAny_pure (hR s1 (mv.mono more) ?_)
    rw [List.drop_of_length_le (by omega)]
    exact T.at fun o q => mv.heap S o nw q
  | succ k ih =>
    intro i ks s hk hi hl at_ T hR
    have lt : i < n := by omega
    refine codeAny_builtin PyProof.Rows.F.entry_set_update_loop ?_
    rw [Around.under_plainId PyProof.Rows.F.plain_set_update_loop _]
    show wpAny _ A.in1 (pyNext (.ref I) >>= _) _ _ s
    refine wpAny_bind (W.item i s _ _ lt at_ fun v s1 pv at1 mv => ?_)
    obtain ⟨z, tk, rfl, ez⟩ := val i v pv
    have T1 : SetTx w s1.heap S ks := T.at fun o q => mv.heap S o nw q
    show wpAny _ A.in1 (holding [Value.str z tk] (setAdd S (.str z tk)) >>= _) _ _ s1
    refine wpAny_bind (wpAny_holding ?_)
    unfold setAdd
    refine wpAny_holding (wpAny_bind ((PySem.strKind prog w).pyHash (k := z) (strKind_is _ _ _ _) ?_))
    refine add_tab (s := { s1 with toks := s1.toks + 1 }) T1 (by omega) fun b h1 sb T2 => ?_
    have e : ts.drop i = z.cps.toList :: ts.drop (i + 1) := by
      obtain ⟨hi2, e2⟩ := List.getElem?_eq_some_iff.mp ez
      rw [List.drop_eq_getElem_cons hi2, e2]
    refine wpAny_pure ⟨plainId_quiet PyProof.Rows.F.plain_set_update_loop _, ih (i + 1) _ _ (by omega) lt (Nat.le_trans (addT_len _ _) (by omega)) (W.frame _ s1 _ _ at1 (Nat.le_succ _) fun b hb o q => ?_) T2 fun s2 mv2 T3 => ?_⟩
    · rw [sb.2 b (fun q2 : b = S => nf (by rw [← q2]; exact hb))]; exact q
    · refine hR s2 (Moved.trans W.gtrans ((mv.mono more).then_heap (Nat.le_succ _) fun b o hb q => ?_) mv2) ?_
      · rw [sb.2 b (fun q2 : b = S => hb (by rw [q2]; exact List.mem_cons_self))]; exact q
      · rw [e, addAll]; exact T3
end

section
variable {prog : Program} {w : World} {A : Around} {E : Value → Shared → Prop} {s : Shared}
theorem fresh_tab {h : Heap} (w : World) : SetTx w (h.push { cls := .type "set", dict := none, data := .set #[] 0 (.fresh 0 0 (!w.params.followText "set-order")) }) h.objs.size [] := by
  refine ⟨_, #[], 0, _, Heap.get?_push_size _ rfl, ⟨rfl, rfl, rfl⟩, rfl, fun e he => by simp at he, .refl _, List.nodup_nil, by decide, by rfl, List.Pairwise.nil, ?_⟩
  show _ ∨ (!w.params.followText "set-order") = true
  cases w.params.followText "set-order"
  · exact .inr rfl
  · exact .inl rfl
theorem new_led (x : Value) {Q1 : Value → Shared → Prop}
    (h : Q1 (.ref s.heap.objs.size) { s with heap := s.heap.push { cls := .type "set", dict := none, data := .set #[] 0 (.fresh 0 0 (!w.params.followText "set-order")) } }) :
    codeAny (model prog w) A (.call (.builtin "set.__new__") ⟨[.type "set", x], []⟩) (wants Q1 E) s := by
  refine codeAny_of_tree ?_
  show wpAny _ A.in1 (do checkBuiltinCall "set.__new__" ⟨[.type "set", x], []⟩; again (.builtin "set.__new__" ⟨[.type "set", x], []⟩)) _ _ s
  refine wpAny_bind (wpAny_of_eq (PySem.F.newCall_set_1 x) (wpAny_pure ⟨plainId_quiet PySem.F.plain_set_new _, codeAny_builtin PySem.F.entry_set_new ?_⟩))
  rw [Around.under_plainId PySem.F.plain_set_new _]
  unfold Builtin.«set.__new__» Builtin.Frozenset.newClass
  have own := sub_set_self
  obtain ⟨h0, g0, d0, k0, o0⟩ := s
  dsimp only
  wp_walk
  refine wpAny_askSetting (wpAny_pure ?_)
  dsimp only
  simp only [newObj]
  exact wpAny_bind (wpAny_alloc (wpAny_pure (wpAny_pure h)))
abbrev setO0 (w : World) : Obj := { cls := .type "set", dict := none, data := .set #[] 0 (.fresh 0 0 (!w.params.followText "set-order")) }
/-- set(a list of texts) -/
theorem set_of {l : Addr} {its : List Value} {ts : List Txt} {Q : Value → Shared → Prop} (hh : A.handled = none) (hl : s.heap.IsList l its.toArray) (hi : StrsAre its (ts.map tx)) (small : ts.length + 1 < scanBound)
    (h : ∀ (h1 : Heap) (tk : Nat), SetTx w h1 s.heap.objs.size (addAll ts []) → (∀ b o, b < s.heap.objs.size → s.heap.get? b = some o → h1.get? b = some o) → Q (.ref s.heap.objs.size) { s with heap := h1, toks := tk }) :
    wpAny (model prog w) A (call (.type "set") [.ref l]) Q E s := by
  obtain ⟨c, tl, mro⟩ := PySem.F.called_set.mro
  have made := PySem.F.called_set.made
  have sub := PySem.F.called_set.sub
  refine wpAny_call (codeAny_of_tree ?_)
  show wpAny _ _ (callAny (.type "set") _) _ _ _
  refine wpAny_pure ⟨Code.quiet_builtin _ (by decide +kernel), codeAny_builtin PySem.F.entry_type_call ?_⟩
  rw [Around.under_plain (weight_type_call_type "set" [.ref l] []) rfl]
  have f1 := PySem.F.called_set.notType
  have f2 := PySem.F.called_set.canCreate
  have f3 := PySem.F.typeCall_set_1 (.ref l)
  repeat (any_goals (first | assumption | wp_step))
  refine codeAny_mono (new_led (.ref l) (E := E) (Q1 := fun obj s1 => obj = .ref s.heap.objs.size ∧ s1 = { s with heap := s.heap.push (setO0 w) }) ⟨rfl, rfl⟩) fun r s1 hr => ?_
  cases r with
  | error e => exact hr
  | ok fl =>
    cases fl with
    | ret obj =>
      obtain ⟨rfl, rfl⟩ := hr
      have at0 : (s.heap.push (setO0 w)).get? s.heap.objs.size = some (setO0 w) := Heap.get?_push_size _ rfl
      have ty0 : Shared.TypeIs { s with heap := s.heap.push (setO0 w) } (.ref s.heap.objs.size) "set" := ⟨_, at0, rfl⟩
      have f4 := PySem.F.called_set.init.lookup
      have f5 := PySem.F.called_set.init.bind (.ref s.heap.objs.size)
      repeat (any_goals (first | assumption | wp_step))
      refine codeAny_mono (codeAny_call_builtin (R := wants (fun r s2 => r = .none ∧ ∃ h1 tk, s2 = { s with heap := h1, toks := tk } ∧ SetTx w h1 s.heap.objs.size (addAll ts []) ∧
          (∀ b o, b < s.heap.objs.size → s.heap.get? b = some o → h1.get? b = some o)) E) PySem.F.called_set.init.plain PySem.F.entry_set_init (check_set_init_1 ty0 ?_)) fun r2 s2 hr2 => ?_
      · obtain ⟨ol, hol, hcl, nl, hdl⟩ := hl
        obtain ⟨ocls, odict, odata, oslots⟩ := ol
        simp only at hcl hdl
        subst hcl; subst hdl
        have hol1 : (s.heap.push (setO0 w)).get? l = some { cls := .type "list", dict := odict, data := .seq its.toArray nl, slots := oslots } := Heap.get?_push_of_some _ hol
        have f6 := PySem.F.sub_list_set
        have f7 := PySem.F.sub_list_frozenset
        have f8 : (Value.type "list" == Value.type "dict") = false := by decide
        have hl1 : (s.heap.push (setO0 w)).IsList l its.toArray := ⟨_, hol1, rfl, nl, rfl⟩
        unfold Builtin.«set.__init__» noKeywords Builtin.Frozenset.updateFrom
        generalize pit : pyIter = PI
        wp_walk
        subst pit
        refine wpAny_pyIter_list hl1 (wpAny_bind (wpAny_runValue ?_))
        have below : l < s.heap.objs.size := Heap.lt_size hol
        have calm3 : A.in1.in1.in1.handled = none := by simp [hh]
        have apart1 : l ≠ (s.heap.push (setO0 w)).objs.size := by
          rw [Heap.size_push]; exact Nat.ne_of_lt (Nat.lt_succ_of_lt below)
        have nf : s.heap.objs.size ∉ [(s.heap.push (setO0 w)).objs.size, l] := by
          rw [Heap.size_push]
          simp only [List.mem_cons, List.not_mem_nil, or_false, not_or]
          exact ⟨Nat.ne_of_lt (Nat.lt_succ_self _), Nat.ne_of_gt below⟩
        have hn : ts.length = its.toArray.size := by
          have := StrsAre.len_eq hi
          rw [List.length_map] at this
          rw [List.size_toArray, this]
        have val : ∀ (i : Nat) (v : Value), its.toArray[i]? = some v → ∃ z k, v = .str z k ∧ ts[i]? = some z.cps.toList := fun i v hv => by
          have hv : its[i]? = some v := by simpa using hv
          obtain ⟨t, e⟩ := SS.strs_at hi i v hv
          have lt : i < ts.length := by
            have := (List.getElem?_eq_some_iff.mp hv).1
            have e2 := StrsAre.len_eq hi
            rw [List.length_map] at e2
            omega
          refine ⟨_, t, e, ?_⟩
          simp [List.getD_eq_getElem?_getD, lt, tx_list]
        refine fill_tab ((Walks.list calm3 _ l apart1 its.toArray).toS) s.heap.objs.size nf ts hn (by rw [← hn]; exact small) val (its.toArray.size - 0) 0 [] _ (by omega) (Nat.zero_le _) (Nat.le_refl _)
          ⟨⟨_, Heap.get?_push_size _ rfl, rfl, rfl⟩, (hl1.push _)⟩ ?_ ?_
        · exact (fresh_tab (h := s.heap) w).at fun o q => Heap.get?_push_of_some _ q
        · intro s3 mv T
          obtain ⟨h3, g3, d3, k3, o3⟩ := s3
          have eg : g3 = s.gens := mv.gens
          have ed : d3 = s.drawn := mv.drawn
          have eo : o3 = s.os := mv.os
          subst eg; subst ed; subst eo
          show wpAny _ _ _ _ _ _
          refine wpAny_pure ?_
          show wpAny _ _ (ret Value.none) _ _ _
          refine wpAny_pure ⟨rfl, h3, k3, rfl, T, fun b o hb e => ?_⟩
          refine mv.heap b o ?_ (Heap.get?_push_of_some _ (Heap.get?_push_of_some _ e))
          rw [Heap.size_push]
          simp only [List.mem_cons, List.not_mem_nil, or_false, not_or]
          exact ⟨Nat.ne_of_lt hb, Nat.ne_of_lt (Nat.lt_succ_of_lt hb)⟩
      · cases r2 with
        | error e => exact hr2
        | ok fl2 =>
          cases fl2 with
          | ret r =>
            obtain ⟨rfl, h3, k3, rfl, T, keep⟩ := hr2
            repeat (any_goals (first | assumption | wp_step))
            exact h _ _ T keep
          | _ => exact hr2.elim
    | _ => exact hr.elim
end
section
variable {X : Cx}
theorem call_setT (hc : X.calm = true) : CallR X (.type "set") (fun xs H Q => ∃ l ts, xs = [.ref l] ∧ SqL X.K H l (ts.map (V.str ∘ tx)) ∧ ts.length + 1 < scanBound ∧ ∀ p, H p = none → Q (.ref p) (upd H p (SetX X.w p (addAll ts [])))) := by
  intro pins s σ H xs us Q I r h
  obtain ⟨l, ts, rfl, hl, hn, q⟩ := h
  rw [Vals.ref1 r]
  obtain ⟨its, rv, pl, _⟩ := I.list hl
  have S : StrsAre its (ts.map tx) := by
    rw [← List.map_map] at rv
    exact rv.strs
  refine set_of (I.ok.hd hc) pl.isList S hn fun h1 tk T keep => ?_
  exact ⟨.ref _, upd H s.heap.objs.size (SetX X.w s.heap.objs.size (addAll ts [])), I.laid (t' := tk) (fun b o e => keep b o (Heap.lt_size e) e) (Nat.le_refl _) (setX_new T), rfl, q _ (I.hok.fresh (Nat.le_refl _))⟩
end
end Mi
namespace Mi
open PySem L2

inductive Ex where
  | bad
  | var (i : Nat) | lit (v : Val) | glb (i : Nat)
  | nil | cons (a as : Ex)
  | tup (as : Ex) | lst (as : Ex) | new (as : Ex) | dsp (as : Ex) | dnew (as : Ex)
  | bin (o : BO) (a b : Ex) | cmp (o : CO) (a b : Ex) | isN (yes : Bool) (a : Ex) | isB (yes b : Bool) (a : Ex) | neg (a : Ex)
  | and (a b : Ex) | or (a b : Ex) | not (a : Ex) | ite (c a b : Ex) | chain (o1 o2 : CO) (a b c : Ex)
  | ix (a b : Ex) | sl (a lo hi : Ex)
  | fn (f : FO) (as : Ex) | lnew (a : Ex) | dcpy (a : Ex) | sortK (a : Ex) | mt (m : MO) (o as : Ex) | dget (o k d : Ex) | isi (t : TyN) (a : Ex)
  | call (f : Nat) (as : Ex)
  | rng1 (a : Ex) | rng2 (a b : Ex)
  | lc (vs : List Nat) (tg : Tg) (it c e : Ex) | lcn (vs : List Nat) (tg : Tg) (it c e : Ex)
  | fld (c : Nat) (f : Txt) (o : Ex) | meth (c f : Nat) (m : Txt) (o as : Ex)
  | kin (yes : Bool) (i : Nat) (a : Ex) | kix (i : Nat) (a : Ex)

/-- what an except suite may say of the exception, the names, constants -/
inductive Sx where
  | lit (v : Val) | var (i : Nat) | nil | cons (a as : Sx) | tup (as : Sx) | xf (f : Txt) | isx (j : Nat) (cs : List Nat) | isV | and (a b : Sx) | or (a b : Sx) | not (a : Sx) | ite (c a b : Sx)
inductive Su where
  | skip | seq (a b : Su) | ret (a : Sx) | app (i : Nat) (a : Sx) | ite (c : Sx) (a b : Su)
/-- an except clause: the class named, the classes that it takes, its name's slot -/
structure Hd where
  k : Nat
  j : Nat
  cs : List Nat
  slot : Option Nat
  su : Su
inductive Sm where
  | bad | skip | seq (a b : Sm)
  | asg (i : Nat) (e : Ex) | asgT (tg : Tg) (e : Ex) | put (o k e : Ex) | expr (e : Ex) | frz (i : Nat)
  | ret (e : Ex) | retN
  | ite (c : Ex) (a b : Sm)
  | for_ (tg : Tg) (it : Ex) (body : Sm)
  | brk | cont
  | setf (c : Nat) (f : Txt) (o e : Ex) | while_ (t : Ex) (body : Sm) | raise (c : Nat) | try_ (body : Sm) (hs : List Hd) | mkI (c fi : Nat)

inductive Fl where
  | nx (η : Env) (st : Store) | rt (v : Val) (st : Store) | bk (η : Env) (st : Store) | ct (η : Env) (st : Store) | xc (e : Exn) (η : Env) (st : Store) | no

/-- the calls, the constants -/
structure Itp where
  C : Nat → List Val → Store → Res Val
  gs : List (Txt × Val)
/-- what an expression comes to: as a value, as a list of arguments, as a test, as a slice's part, as what is walked -/
structure E5 where
  v : Env → Store → Res Val
  s : Env → Store → Res (List Val)
  t : Env → Store → Res Bool
  o : Env → Store → Res (Option Int)
  i : Env → Store → Res (List Val × Option Nat)
def plain (v : Env → Store → Res Val) : E5 where
  v := v
  s := fun _ _ => .no
  t := fun η st => (v η st).bind fun x st => opt (truth x) st
  o := fun η st => (v η st).bind fun x st => match x with
    | .int i => .ok (some i) st
    | _ => .no
  i := fun η st => (v η st).bind fun x st => opt (itemsOf st x) st
def none5 : E5 := ⟨fun _ _ => .no, fun _ _ => .no, fun _ _ => .no, fun _ _ => .no, fun _ _ => .no⟩

def fldV (st : Store) (c : Nat) (f : Txt) : Val → Option Val
  | .loc n => (match st[n]? with
    | some (.ins c' ks xs) => if c' = c then look f ks xs else none
    | _ => none)
  | _ => none
/-- an instance of the class c, without an attribute m -/
def insOk (st : Store) (c : Nat) (m : Txt) : Val → Bool
  | .loc n => (match st[n]? with
    | some (.ins c' ks _) => decide (c' = c) && decide (m ∉ ks)
    | _ => false)
  | _ => false
/-- what a written dict holds at a key -/
def kdV (q : Option (Txt × Val)) (x : Val) : Option (Option Val) := match q, keyOf x with
  | some (_, .dct ks xs), some k => some (look k ks xs)
  | _, _ => none
noncomputable def evA (C : Itp) : Ex → E5
  | .bad => none5
  | .var i => plain fun η st => match η[i]? with
    | some (some v) => .ok v st
    | _ => .no
  | .lit v => plain fun _ st => .ok v st
  | .glb i => plain fun _ st => match C.gs[i]? with
    | some p => .ok p.2 st
    | none => .no
  | .nil => { none5 with s := fun _ st => .ok [] st, o := fun _ st => .ok none st }
  | .cons a as => { none5 with s := fun η st => ((evA C a).v η st).bind fun v st => ((evA C as).s η st).bind fun vs st => .ok (v :: vs) st }
  | .tup as => plain fun η st => ((evA C as).s η st).bind fun vs st => if vs.length ≤ sizeLine then .ok (.tup vs) st else .no
  | .lst as => plain fun η st => ((evA C as).s η st).bind fun vs st => if vs.length ≤ sizeLine then .ok (.lst vs) st else .no
  | .new as => plain fun η st => ((evA C as).s η st).bind fun vs st => if vs.length ≤ sizeLine then .ok (.loc st.length) (st ++ [.lst vs]) else .no
  | .dsp as => plain fun η st => ((evA C as).s η st).bind fun vs st => match pairUp vs with
    | some p => if p.1.length ≤ 15 then .ok (.dct (putAll p.1 p.2 ([], [])).1 (putAll p.1 p.2 ([], [])).2) st else .no
    | none => .no
  | .dnew as => plain fun η st => ((evA C as).s η st).bind fun vs st => match pairUp vs with
    | some p => if p.1.length ≤ 15 then .ok (.loc st.length) (st ++ [.dct (putAll p.1 p.2 ([], [])).1 (putAll p.1 p.2 ([], [])).2]) else .no
    | none => .no
  | .bin o a b => plain fun η st => ((evA C a).v η st).bind fun x st => ((evA C b).v η st).bind fun y st => opt (binV st o x y) st
  | .cmp o a b => plain fun η st => ((evA C a).v η st).bind fun x st => ((evA C b).v η st).bind fun y st => opt ((cmpV st o x y).map .bl) st
  | .isN yes a => plain fun η st => ((evA C a).v η st).bind fun x st => match x with
    | .non => .ok (.bl yes) st
    | _ => .ok (.bl !yes) st
  | .isB yes b a => plain fun η st => ((evA C a).v η st).bind fun x st => match x with
    | .bl c => .ok (.bl (if yes then c == b else !(c == b))) st
    | _ => .no
  | .neg a => plain fun η st => ((evA C a).v η st).bind fun x st => match x with
    | .int i => .ok (.int (-i)) st
    | _ => .no
  | .and a b => { plain (fun η st => ((evA C a).v η st).bind fun x st => match x with
    | .bl true => (evA C b).v η st
    | .bl false => .ok (.bl false) st
    | _ => .no) with t := fun η st => ((evA C a).t η st).bind fun t st => match t with
    | true => (evA C b).t η st
    | false => .ok false st }
  | .or a b => { plain (fun η st => ((evA C a).v η st).bind fun x st => match x with
    | .bl false => (evA C b).v η st
    | .bl true => .ok (.bl true) st
    | _ => .no) with t := fun η st => ((evA C a).t η st).bind fun t st => match t with
    | true => .ok true st
    | false => (evA C b).t η st }
  | .not a => { plain (fun η st => ((evA C a).v η st).bind fun x st => match x with
    | .bl b => .ok (.bl !b) st
    | _ => .no) with t := fun η st => ((evA C a).t η st).bind fun t st => .ok (!t) st }
  | .ite c a b => { plain (fun η st => ((evA C c).t η st).bind fun t st => match t with
    | true => (evA C a).v η st
    | false => (evA C b).v η st) with t := fun _ _ => .no }
  | .chain o1 o2 a b c => plain fun η st => ((evA C a).v η st).bind fun x st => ((evA C b).v η st).bind fun y st => match cmpV st o1 x y with
    | some true => ((evA C c).v η st).bind fun z st => opt ((cmpV st o2 y z).map .bl) st
    | some false => .ok (.bl false) st
    | none => .no
  | .ix a b => plain fun η st => ((evA C a).v η st).bind fun x st => ((evA C b).v η st).bind fun y st => opt (ixV st x y) st
  | .sl a lo hi => plain fun η st => ((evA C a).v η st).bind fun x st => ((evA C lo).o η st).bind fun l st => ((evA C hi).o η st).bind fun h st => opt (slV st x l h) st
  | .fn f as => plain fun η st => ((evA C as).s η st).bind fun vs st => opt (fnV st f vs) st
  | .lnew a => plain fun η st => ((evA C a).v η st).bind fun x st => match listV st x with
    | some xs => .ok (.loc st.length) (st ++ [.lst xs])
    | none => .no
  | .dcpy a => plain fun η st => ((evA C a).v η st).bind fun x st => match dictV st x with
    | some p => .ok (.loc st.length) (st ++ [.dct p.1 p.2])
    | none => .no
  | .sortK a => plain fun η st => ((evA C a).v η st).bind fun x st => match (asL st x).bind rowsOf with
    | some ps => if (ps.map (·.1)).Nodup then .ok (.lst ((sortKs ps).map (·.2))) st else .no
    | none => .no
  | .mt m o as => plain fun η st => ((evA C o).v η st).bind fun x st => if mtOk m x st then ((evA C as).s η st).bind fun vs st => match mtV m x vs st with
    | some p => .ok p.1 p.2
    | none => .no else .no
  | .dget o k d => plain fun η st => ((evA C o).v η st).bind fun x st => if (asD st x).isSome then ((evA C k).v η st).bind fun y st => ((evA C d).v η st).bind fun z st => match asD st x, keyOf y with
    | some p, some k => .ok ((look k p.1 p.2).getD z) st
    | _, _ => .no else .no
  | .isi t a => plain fun η st => ((evA C a).v η st).bind fun x st => opt ((isiV t x).map .bl) st
  | .call f as => plain fun η st => ((evA C as).s η st).bind fun vs st => C.C f vs st
  | .rng1 a => { none5 with i := fun η st => ((evA C a).v η st).bind fun v st => match v with
    | .int n => if -(2 ^ 24) < n ∧ n < 2 ^ 24 then .ok ((List.range n.toNat).map fun (k : Nat) => Val.int k, none) st else .no
    | _ => .no }
  | .rng2 a b => { none5 with i := fun η st => ((evA C a).v η st).bind fun v st => ((evA C b).v η st).bind fun u st => match v, u with
    | .int m, .int n => if -(2 ^ 24) < m ∧ m < 2 ^ 24 ∧ -(2 ^ 24) < n ∧ n < 2 ^ 24 then .ok ((List.range (n - m).toNat).map fun (k : Nat) => Val.int (m + k), none) st else .no
    | _, _ => .no }
  | .lc vs tg it c e => plain fun η st => ((evA C it).i η st).bind fun p st =>
      (lcLoop (ckOf p.2 p.1) tg (wipeE η vs) (evA C c).t (evA C e).v p.1 [] st).bind fun xs st => .ok (.lst xs) st
  | .lcn vs tg it c e => plain fun η st => ((evA C it).i η st).bind fun p st =>
      (lcLoop (ckOf p.2 p.1) tg (wipeE η vs) (evA C c).t (evA C e).v p.1 [] st).bind fun xs st => .ok (.loc st.length) (st ++ [.lst xs])

  | .kin yes i a => plain fun η st => ((evA C a).v η st).bind fun x st => match kdV C.gs[i]? x with
    | some o => .ok (.bl (if yes then o.isSome else !o.isSome)) st
    | none => .no
  | .kix i a => plain fun η st => ((evA C a).v η st).bind fun x st => match kdV C.gs[i]? x with
    | some o => opt o st
    | none => .no
  | .fld c f o => plain fun η st => ((evA C o).v η st).bind fun x st => opt (fldV st c f x) st
  | .meth c f m o as => plain fun η st => ((evA C o).v η st).bind fun x st => if insOk st c m x then ((evA C as).s η st).bind fun vs st => C.C f (x :: vs) st else .no

/-! suites -/
mutual
def sxV (e : Exn) (η : Env) : Sx → Option Val
  | .lit v => some v
  | .var i => (match η[i]? with | some (some v) => some v | _ => none)
  | .nil => none
  | .cons _ _ => none
  | .tup as => (sxL e η as).map .tup
  | .xf f => look f e.ks e.xs
  | .isx _ cs => if e.ks = [] then some (.bl (decide (e.c ∈ cs))) else none
  | .isV => if e.ks = [] then some (.bl true) else none
  | .and a b => (match sxV e η a with | some (.bl true) => (match sxV e η b with | some (.bl c) => some (.bl c) | _ => none) | some (.bl false) => some (.bl false) | _ => none)
  | .or a b => (match sxV e η a with | some (.bl false) => (match sxV e η b with | some (.bl c) => some (.bl c) | _ => none) | some (.bl true) => some (.bl true) | _ => none)
  | .not a => (match sxV e η a with | some (.bl c) => some (.bl !c) | _ => none)
  | .ite c a b => (match sxV e η c with | some (.bl true) => sxV e η a | some (.bl false) => sxV e η b | _ => none)
def sxL (e : Exn) (η : Env) : Sx → Option (List Val)
  | .nil => some []
  | .cons a as => (sxV e η a).bind fun v => (sxL e η as).map (v :: ·)
  | _ => none
end
def suF (e : Exn) : Su → Env → Store → Fl
  | .skip, η, st => .nx η st
  | .seq a b, η, st => (match suF e a η st with | .nx η st => suF e b η st | f => f)
  | .ret a, η, st => (match sxV e η a with | some v => .rt v st | none => .no)
  | .app i a, η, st => (match η[i]?, sxV e η a with
    | some (some o), some v => (match mtV .append o [v] st with | some p => .nx η p.2 | none => .no)
    | _, _ => .no)
  | .ite c a b, η, st => (match sxV e η c with | some (.bl true) => suF e a η st | some (.bl false) => suF e b η st | _ => .no)
def unS (s : Option Nat) (η : Env) : Env := match s with
  | some i => η.set i none
  | none => η
def slB (s : Option Nat) (η : Env) : Bool := match s with
  | some i => decide (i < η.length)
  | none => true
def hndF (e : Exn) (η : Env) (st : Store) : List Hd → Fl
  | [] => .xc e η st
  | h :: r => if e.c < h.k ∧ slB h.slot η = true then (if e.c ∈ h.cs then (match suF e h.su (unS h.slot η) st with
    | .nx η' st' => .nx (unS h.slot η') st'
    | .rt v st' => .rt v st'
    | _ => .no) else hndF e η st r) else .no

/-! statements -/
def Fl.then (f : Fl) (k : Env → Store → Fl) : Fl := match f with
  | .nx η st => k η st
  | f => f
def Res.fl {α : Type} (r : Res α) (η : Env) (k : α → Store → Fl) : Fl := match r with
  | .ok a st => k a st
  | .ex e st => .xc e η st
  | .no => .no
def forLoop (ck : Store → Bool) (tg : Tg) (B : Env → Store → Fl) : List Val → Env → Store → Fl
  | [], η, st => if ck st then .nx η st else .no
  | x :: xs, η, st => if ck st then (match asgTg tg x η with
    | none => .no
    | some η1 => match B η1 st with
      | .nx η2 st2 => forLoop ck tg B xs η2 st2
      | .ct η2 st2 => forLoop ck tg B xs η2 st2
      | .bk η2 st2 => .nx η2 st2
      | .rt v st2 => .rt v st2
      | .xc e η2 st2 => .xc e η2 st2
      | .no => .no) else .no
def putV (o k v : Val) (st : Store) : Option Store := match o with
  | .loc n => match st[n]? with
    | some (.dct ks xs) => (keyOf k).bind fun k => if xs.length < sizeLine then some (st.set n (.dct (putD k v ks xs).1 (putD k v ks xs).2)) else none
    | some (.lst xs) => (match k with
      | .int i => (ixN xs.length i).map fun j => st.set n (.lst (xs.set j v))
      | _ => none)
    | _ => none
  | _ => none

def putI (k : Txt) (v : Val) : List Txt → List Val → List Txt × List Val
  | k' :: ks, x :: xs => if k' = k then (k' :: ks, v :: xs) else (k' :: (putI k v ks xs).1, x :: (putI k v ks xs).2)
  | _, _ => ([k], [v])
def setF (c : Nat) (f : Txt) (x v : Val) (st : Store) : Option Store := match x with
  | .loc n => (match st[n]? with
    | some (.ins c' ks xs) => if c' = c ∧ ks.length < 900 then some (st.set n (.ins c (putI f v ks xs).1 (putI f v ks xs).2)) else none
    | _ => none)
  | _ => none
def whl (T : Env → Store → Res Bool) (B : Env → Store → Fl) : Nat → Env → Store → Fl
  | 0, _, _ => .no
  | k + 1, η, st => (T η st).fl η fun t st => match t with
    | false => .nx η st
    | true => match B η st with
      | .nx η2 st2 => whl T B k η2 st2
      | .ct η2 st2 => whl T B k η2 st2
      | .bk η2 st2 => .nx η2 st2
      | .rt v st2 => .rt v st2
      | .xc e η2 st2 => .xc e η2 st2
      | .no => .no
def valsE : Env → Option (List Val)
  | [] => some []
  | some v :: r => (valsE r).map (v :: ·)
  | none :: _ => none
noncomputable def exec (C : Itp) : Sm → Env → Store → Fl
  | .bad, _, _ => .no
  | .skip, η, st => .nx η st
  | .seq a b, η, st => (exec C a η st).then (exec C b)
  | .asg i e, η, st => ((evA C e).v η st).fl η fun v st => .nx (η.set i (some v)) st
  | .asgT tg e, η, st => ((evA C e).v η st).fl η fun v st => match asgTg tg v η with
    | some η => .nx η st
    | none => .no
  | .put o k e, η, st => ((evA C e).v η st).fl η fun v st => ((evA C o).v η st).fl η fun x st => ((evA C k).v η st).fl η fun y st => match putV x y v st with
    | some st => .nx η st
    | none => .no
  | .expr e, η, st => ((evA C e).v η st).fl η fun _ st => .nx η st
  | .frz i, η, st => match η[i]? with
    | some (some v) => (match frzV 1000 v st with
      | some p => .nx (η.set i (some p.1)) p.2
      | none => .no)
    | _ => .no
  | .ret e, η, st => ((evA C e).v η st).fl η fun v st => .rt v st
  | .retN, _, st => .rt .non st
  | .ite c a b, η, st => ((evA C c).t η st).fl η fun t st => match t with
    | true => exec C a η st
    | false => exec C b η st
  | .for_ tg it body, η, st => ((evA C it).i η st).fl η fun p st => forLoop (ckOf p.2 p.1) tg (exec C body) p.1 η st
  | .brk, η, st => .bk η st
  | .cont, η, st => .ct η st
  | .setf c f o e, η, st => ((evA C e).v η st).fl η fun v st => ((evA C o).v η st).fl η fun x st => match setF c f x v st with
    | some st => .nx η st
    | none => .no
  | .while_ t b, η, st => whl (evA C t).t (exec C b) 100000 η st
  | .raise c, η, st => .xc ⟨c, [], []⟩ η st
  | .try_ b hs, η, st => match exec C b η st with
    | .xc e η st => hndF e η st hs
    | f => f
  | .mkI c fi, η, st => match valsE η with
    | some vs => (C.C fi (.loc st.length :: vs) (st ++ [.ins c [] []])).fl η fun v st' => match v with
      | .non => .rt (.loc st.length) st'
      | _ => .no
    | none => .no

/-- a function, a method of a class, a class's making by its __init__ -/
inductive Kd where | fn | meth (c : Nat) | mk (c fi : Nat)
structure Def where
  name : Txt
  ps : List Txt
  ns : List Txt
  body : Sm
  lam : Bool := false
  kind : Kd := .fn
/-- a program: its functions, its constants -/
structure Prg where
  fns : List Def
  gs : List (Txt × Val)
  /-- own classes, with their attributes -/
  cs : List (Txt × List Txt) := []
  /-- own exception classes -/
  xs : List Txt := []
  /-- those that are of each -/
  em : List (List Nat) := []
  /-- their attributes -/
  xa : List (List Txt) := []
def retOf : Fl → Res Val
  | .nx _ st => .ok .non st
  | .rt v st => .ok v st
  | .xc e _ st => .ex e st
  | _ => .no
abbrev FAt (p : Prg) (i : Nat) (d : Def) : Prop := p.fns[i]? = some d
abbrev GAt (p : Prg) (i : Nat) (q : Txt × Val) : Prop := p.gs[i]? = some q
noncomputable def callN (p : Prg) (n f : Nat) (as : List Val) (st : Store) : Res Val := match n with
  | 0 => .no
  | n + 1 => match p.fns[f]? with
    | some d => if as.length = d.ps.length then retOf (exec ⟨callN p n, p.gs⟩ d.body (as.map some ++ List.replicate (d.ns.length - as.length) none) st) else .no
    | none => .no
termination_by n
theorem callN_zero (p : Prg) (f : Nat) (as : List Val) (st : Store) : callN p 0 f as st = .no := by rw [callN]
theorem callN_succ (p : Prg) (n f : Nat) (as : List Val) (st : Store) : callN p (n + 1) f as st = (match p.fns[f]? with
    | some d => if as.length = d.ps.length then retOf (exec ⟨callN p n, p.gs⟩ d.body (as.map some ++ List.replicate (d.ns.length - as.length) none) st) else .no
    | none => .no) := by rw [callN]
end Mi
namespace Mi
open PySem L2

/-! the check of a compact text against the row's own -/
structure CC where
  N : List Str
  sc : Scope
  fn : Str → Bool
  lam : Bool
  top : Bool
def kindIn (c : CC) (x : Str) : Option NameKind := c.sc.names.lookup x
def visB (c : CC) (x : Str) : Bool := match kindIn c x with
  | some .local => true | some .cell => true | some .free => true | _ => false
def glB (c : CC) (x : Str) : Bool := match kindIn c x with
  | some .globalImplicit => true | _ => false
def tgB (c : CC) (x : Str) : Bool := match kindIn c x with
  | some .local => true | some .cell => c.fn x | _ => false
def noDbg (x : Str) : Bool := !decide (x = ("__debug__" : Str)) && !decide (x = ("__classdict__" : Str)) && !decide (x = ("__name__" : Str))
def noStar : Expr → Bool
  | .Starred _ _ => false | _ => true
def plainTest : Expr → Bool
  | .UnaryOp .Not _ _ => false | .BoolOp _ _ _ => false | .IfExp _ _ _ _ => false | .Compare _ _ _ _ => false | _ => true
def noSlice : Expr → Bool
  | .Slice _ _ _ _ => false | _ => true
def noSet : Expr → Bool
  | .Set _ _ _ => false | _ => true
def noCall : Expr → Bool
  | .Call _ (_ :: _) _ _ => true | .Call _ _ _ _ => false | _ => true
def noComp : Expr → Bool
  | .ListComp _ _ _ _ => false | .SetComp _ _ _ _ => false | .DictComp _ _ _ _ _ => false | _ => true
def litB : Val → Const → Bool
  | .non, .none => true
  | .bl b, .bool c => b == c
  | .int i, .int j => decide (i = j)
  | .str s, .str z => decide (tx s = z) && decide (s.length ≤ sizeLine)
  | _, _ => false
def boB : BO → Operator → Bool
  | .add, .Add => true | .sub, .Sub => true | .mul, .Mult => true | .fdiv, .FloorDiv => true | .mod, .Mod => true | .pow, .Pow => true | _, _ => false
def coB : CO → CmpOp → Bool
  | .eq, .Eq => true | .ne, .NotEq => true | .lt, .Lt => true | .le, .LtE => true | .gt, .Gt => true | .ge, .GtE => true | .isin, .In => true | .notin, .NotIn => true | _, _ => false
def foN : FO → String
  | .len => "len" | .abs => "abs" | .sum => "sum" | .int => "int" | .str => "str" | .list => "list" | .tuple => "tuple" | .sorted => "sorted" | .all => "all" | .any => "any" | .max => "max" | .min => "min" | .dict => "dict" | .ssort => "" | .lset => ""
/-- a built-in's name -/
def bltB (c : CC) (x : Str) (n : String) : Bool := glB c x && decide (x = (n : Str))
def tgOk (c : CC) : Tg → Expr → Bool
  | .nm i, .Name x _ => decide (c.N[i]? = some x) && tgB c x && noDbg x
  | .tp is, .Tuple es _ _ => is.length == es.length && (is.zip es).all fun p => match p.2 with
    | .Name x _ => decide (c.N[p.1]? = some x) && tgB c x && noDbg x
    | _ => false
  | _, _ => false

structure Ck where
  v : Expr → Bool
  s : List Expr → Bool
  o : Option Expr → Bool
  i : Expr → Bool
def ckV (v : Expr → Bool) : Ck where
  v := v
  s := fun _ => false
  o := fun e => match e with
    | some e => v e
    | none => false
  i := v
def ck0 : Ck := ⟨fun _ => false, fun _ => false, fun _ => false, fun _ => false⟩
/-- the keys and values of a display, one behind the other -/
def pairL : List (Option Expr) → List Expr → Option (List Expr)
  | [], [] => some []
  | some k :: ks, v :: vs => (pairL ks vs).map fun r => k :: v :: r
  | _, _ => none
def blkCC (c : CC) (scope : Scope) : CC := ⟨c.N, relS scope c.sc, fun x => scope.names.lookup x == some .cell, false, false⟩
def ownOf (c : CC) (vs : List Nat) : List (Str × Nat) := vs.map fun i => ((c.N[i]?).getD Str.empty, i)

def tgIn : Tg → List Nat → Bool
  | .nm i, vs => vs.contains i
  | .tp is, vs => is.all vs.contains
def yesB : Ex → Bool
  | .lit (.bl true) => true
  | _ => false
def Def.isMeth (d : Def) : Bool := match d.kind with
  | .meth _ => true
  | _ => false
def Def.isMethOf (d : Def) (k : Nat) : Bool := match d.kind with
  | .meth c => decide (c = k)
  | _ => false
def fldB (p : Prg) (k : Nat) (f : Txt) : Bool := match p.cs[k]? with
  | some q => q.2.contains f
  | none => false
def isDct : Val → Bool
  | .dct _ _ => true
  | _ => false
def kdB (p : Prg) (i : Nat) (y : Str) : Bool := match p.gs[i]? with
  | some (nm, .dct _ _) => decide (y = tx nm)
  | _ => false
def chk (p : Prg) : Ex → CC → Ck
  | .bad, _ => ⟨fun _ => true, fun _ => false, fun _ => false, fun _ => false⟩
  | .var i, c => ckV fun e => match e with
    | .Name x _ => decide (c.N[i]? = some x) && visB c x && noDbg x
    | _ => false
  | .lit v, _ => ckV fun e => match e with
    | .Constant k _ _ => litB v k
    | _ => false
  | .glb i, c => ckV fun e => match e with
    | .Name x _ => glB c x && noDbg x && (match p.gs[i]? with | some g => decide (x = tx g.1) && !isDct g.2 | none => false)
    | _ => false
  | .nil, _ => { ck0 with s := fun es => es.isEmpty, o := fun e => e.isNone }
  | .cons a as, c => { ck0 with s := fun es => match es with
    | e :: es => noStar e && (chk p a c).v e && (chk p as c).s es
    | [] => false }
  | .tup as, c => ckV fun e => match e with
    | .Tuple es _ _ => (chk p as c).s es
    | _ => false
  | .lst as, c => ckV fun e => match e with
    | .List es _ => (chk p as c).s es
    | _ => false
  | .new as, c => ckV fun e => match e with
    | .List es _ => (chk p as c).s es
    | _ => false
  | .dsp as, c => ckV fun e => match e with
    | .Dict ks vs _ => (match pairL ks vs with | some es => (chk p as c).s es && decide (ks.length ≤ 15) | none => false)
    | _ => false
  | .dnew as, c => ckV fun e => match e with
    | .Dict ks vs _ => (match pairL ks vs with | some es => (chk p as c).s es && decide (ks.length ≤ 15) | none => false)
    | _ => false
  | .bin o a b, c => ckV fun e => match e with
    | .BinOp x op y _ => boB o op && (chk p a c).v x && (chk p b c).v y
    | _ => false
  | .cmp o a b, c => ckV fun e => match e with
    | .Compare x [op] [y] _ => coB o op && noSet y && (chk p a c).v x && (chk p b c).v y
    | _ => false
  | .isN yes a, c => ckV fun e => match e with
    | .Compare x [op] [.Constant .none _ _] _ => decide (op = if yes then CmpOp.Is else CmpOp.IsNot) && (chk p a c).v x
    | _ => false
  | .isB yes b a, c => ckV fun e => match e with
    | .Compare x [op] [.Constant (.bool b') _ _] _ => decide (op = if yes then CmpOp.Is else CmpOp.IsNot) && decide (b' = b) && (chk p a c).v x
    | _ => false
  | .neg a, c => ckV fun e => match e with
    | .UnaryOp .USub x _ => (chk p a c).v x
    | _ => false
  | .and a b, c => ckV fun e => match e with
    | .BoolOp .And [x, y] _ => (chk p a c).v x && (chk p b c).v y
    | .BoolOp .And (x :: y :: z :: r) pos => (chk p a c).v x && (chk p b c).v (.BoolOp .And (y :: z :: r) pos)
    | _ => false
  | .or a b, c => ckV fun e => match e with
    | .BoolOp .Or [x, y] _ => (chk p a c).v x && (chk p b c).v y
    | .BoolOp .Or (x :: y :: z :: r) pos => (chk p a c).v x && (chk p b c).v (.BoolOp .Or (y :: z :: r) pos)
    | _ => false
  | .not a, c => ckV fun e => match e with
    | .UnaryOp .Not x _ => (chk p a c).v x
    | _ => false
  | .ite t a b, c => ckV fun e => match e with
    | .IfExp x y z _ => (chk p t c).v x && (chk p a c).v y && (chk p b c).v z
    | _ => false
  | .chain o1 o2 a b d, c => ckV fun e => match e with
    | .Compare x [op1, op2] [y, z] _ => coB o1 op1 && coB o2 op2 && noSet y && noSet z && (chk p a c).v x && (chk p b c).v y && (chk p d c).v z
    | _ => false
  | .ix a b, c => ckV fun e => match e with
    | .Subscript x y _ => noSlice y && (chk p a c).v x && (chk p b c).v y
    | _ => false
  | .sl a lo hi, c => ckV fun e => match e with
    | .Subscript x (.Slice l h none _) _ => (chk p a c).v x && (chk p lo c).o l && (chk p hi c).o h
    | _ => false
  | .fn .ssort as, c => ckV fun e => match e with
    | .Call (.Name f _) [.Call (.Name g _) [x] [] _] [] _ => bltB c f "sorted" && bltB c g "set" && (chk p as c).s [x]
    | _ => false
  | .fn .lset _, _ => ck0
  | .fn f as, c => ckV fun e => match e with
    | .Call (.Name x _) (y :: ys) [] _ => bltB c x (foN f) && (chk p as c).s (y :: ys)
    | _ => false
  | .lnew a, c => ckV fun e => match e with
    | .Call (.Name x _) [y] [] _ => bltB c x "list" && noStar y && (chk p a c).v y
    | _ => false
  | .dcpy a, c => ckV fun e => match e with
    | .Call (.Name x _) [y] [] _ => bltB c x "dict" && noStar y && (chk p a c).v y
    | _ => false
  | .sortK a, c => ckV fun e => match e with
    | .Call (.Name f _) [x] [⟨some k, .Lambda ⟨[], [⟨y, none, _⟩], none, [], [], none, []⟩ (.Subscript (.Name y1 _) (.Constant (.int 0) _ _) _) ⟨.function, [(y2, .local)], false, false, []⟩ _, _⟩] _ =>
        c.lam && bltB c f "sorted" && noStar x && decide (k = Str.ofString "key") && decide (y1 = y) && decide (y2 = y) && noDbg y && (chk p a c).v x
    | _ => false
  | .mt m o as, c => ckV fun e => match e with
    | .Call (.Attribute x n ap) ys [] cp => decide (n = (moN m : Str)) && noCall x && (ap.endLine == cp.line) && !decide (m = .items) && !decide (m = .index) && (chk p o c).v x && (chk p as c).s ys && decide (ys.length < 29)
    | _ => false
  | .dget o k d, c => ckV fun e => match e with
    | .Call (.Attribute x n ap) [y, z] [] cp => decide (n = ("get" : Str)) && noCall x && (ap.endLine == cp.line) && noStar y && noStar z && (chk p o c).v x && (chk p k c).v y && (chk p d c).v z
    | _ => false
  | .kin yes i a, c => ckV fun e => match e with
    | .Compare x [op] [.Name y _] _ => decide (op = if yes then CmpOp.In else CmpOp.NotIn) && glB c y && noDbg y && kdB p i y && (chk p a c).v x
    | _ => false
  | .kix i a, c => ckV fun e => match e with
    | .Subscript (.Name y _) x _ => noSlice x && glB c y && noDbg y && kdB p i y && (chk p a c).v x
    | _ => false
  | .isi t a, c => ckV fun e => match e with
    | .Call (.Name x _) [y, .Name z _] [] _ => bltB c x "isinstance" && bltB c z (tyS t) && noStar y && (chk p a c).v y
    | _ => false
  | .call f as, c => ckV fun e => match e with
    | .Call (.Name x _) ys [] _ => glB c x && noDbg x && (match p.fns[f]? with | some d => decide (x = tx d.name) && !d.isMeth | none => false) && (chk p as c).s ys
    | _ => false
  | .fld k f o, c => ckV fun e => match e with
    | .Attribute x n _ => decide (n = tx f) && noCall x && fldB p k f && (chk p o c).v x
    | _ => false
  | .meth k f m o as, c => ckV fun e => match e with
    | .Call (.Attribute x n ap) ys [] cp => decide (n = tx m) && noCall x && (ap.endLine == cp.line) && (match p.fns[f]? with | some d => decide (d.name = m) && d.isMethOf k | none => false) && (chk p o c).v x && (chk p as c).s ys && decide (ys.length < 29)
    | _ => false
  | .rng1 a, c => { ck0 with i := fun e => match e with
    | .Call (.Name x _) [y] [] _ => bltB c x "range" && noStar y && (chk p a c).v y
    | _ => false }
  | .rng2 a b, c => { ck0 with i := fun e => match e with
    | .Call (.Name x _) [y, z] [] _ => bltB c x "range" && noStar y && noStar z && (chk p a c).v y && (chk p b c).v z
    | _ => false }
  | .lc vs tg it t el, c => ckV fun e => match e with
    | .ListComp elt [⟨tgt, iter, ifs, 0⟩] scope _ => noSet iter && (chk p it c).i iter && blkC c.N c.sc scope (ownOf c vs) && tgOk (blkCC c scope) tg tgt && tgIn tg vs &&
        (chk p el (blkCC c scope)).v elt && (match ifs with
          | [] => yesB t
          | [x] => (chk p t (blkCC c scope)).v x
          | _ => false)
    | _ => false
  | .lcn vs tg it t el, c => ckV fun e => match e with
    | .ListComp elt [⟨tgt, iter, ifs, 0⟩] scope _ => noSet iter && (chk p it c).i iter && blkC c.N c.sc scope (ownOf c vs) && tgOk (blkCC c scope) tg tgt && tgIn tg vs &&
        (chk p el (blkCC c scope)).v elt && (match ifs with
          | [] => yesB t
          | [x] => (chk p t (blkCC c scope)).v x
          | _ => false)
    | _ => false
end Mi
namespace Mi
open PySem L2

def spF (g : Gd) (p : Prg) (n f : Nat) : Sp := fun vs H Q E => ∃ ρ st as, Wd g ρ st H ∧ Rels g ρ H as vs ∧ (∃ d, p.fns[f]? = some d ∧ as.length = d.ps.length) ∧
  Post g E ρ H (callN p n f as st) fun v ρ' _ H' => ∀ V, Rel g ρ' H' v V → Q V H'
def bnames : List String := ["len", "abs", "sum", "int", "str", "list", "tuple", "sorted", "all", "any", "max", "min", "dict", "set", "range", "isinstance", "bool", "ValueError"]

/-- what a def of the program promises to one that stands in X -/
def FnX (g : Gd) (p : Prg) (n : Nat) (X : Cx) (f : Nat) (d : Def) : Prop := match d.kind with
  | .fn => ∃ fa fd, FnOk X.prog X.w X.K X.mg X.base (L2.CX X.prog X.w) n fa fd (d.ps.map tx) (spF g p n f) ∧ X.mg (tx d.name) = some (.ref fa) ∧ PySem.W.keepIn X.K (.ref fa) = true ∧ Binds X.K fd (d.ps.map tx) []
  | .meth c => ∃ fa fd, FnOk X.prog X.w X.K X.mg X.base (L2.CX X.prog X.w) n fa fd (d.ps.map tx) (spF g p n f) ∧ Cls X.K (g.ca c) ∧ Meth X.K (g.ca c) (tx d.name) fa ∧ Binds X.K fd (d.ps.map tx) []
  | .mk c fi => ∃ fI fd d', p.fns[fi]? = some d' ∧ d.body = .mkI c fi ∧ d.ns = d.ps ∧ d'.ps.length = d.ps.length + 1 ∧ Mk X.K (g.ca c) fI ∧ X.mg (tx d.name) = some (.ref (g.ca c)) ∧
      (∀ m, n = m + 1 → FnOk X.prog X.w X.K X.mg X.base (L2.CX X.prog X.w) m fI fd (d'.ps.map tx) (spF g p m fi)) ∧ Binds X.K fd (d'.ps.map tx) []
/-- the exception class i, by its name -/
structure XcO (g : Gd) (p : Prg) (X : Cx) (i : Nat) (x : Txt) : Prop where
  mg : X.mg (tx x) = some (g.xc i)
  cl : ∃ C, g.xc i = .ref C ∧ PySem.W.excIn X.K C He.veBase "ValueError.__new__" = true ∧ PySem.W.keepIn X.K (.ref C) = true ∧ Raises X (.ref C)
  em : ∀ j l, p.em[j]? = some l → j < p.xs.length → PySem.W.exmOne X.K (g.xc i) (g.xc j) = some (decide (i ∈ l))
  kit : ∀ j l, p.em[j]? = some l → j < p.xs.length → PySem.W.kitOne X.K (g.xc i) (g.xc j) = some (decide (i ∈ l))
  kitV : PySem.W.kitOne X.K (g.xc i) (.type "ValueError") = some true
  ec : ∀ D, g.xc i = .ref D → ExcC X.K D ∧ XfC X.K D
  xal : ∃ l, p.xa[i]? = some l
  xa : ∀ D l, g.xc i = .ref D → p.xa[i]? = some l → ∀ f ∈ l, PySem.W.findIn X.K (.ref D) (tx f) = some none
/-- a written dict with text keys -/
def KdOk (g : Gd) (K : PySem.W.Frag) (w : World) (mg : Str → Option Value) (nm : Txt) (ks : List Txt) (xs : List Val) : Prop := ∃ (a : Addr) (es : Array DictEntry) (m : Nat), mg (tx nm) = some (.ref a) ∧ KDict K w a es m ∧
  ∀ k, (∀ v, look k ks xs = some v → ∃ u V, PySem.W.nsIn K a (tx k) = some (some u) ∧ RelV V u ∧ ∀ ρ H, Rel g ρ H v V) ∧ (look k ks xs = none → PySem.W.nsIn K a (tx k) = some none)
structure CxS (g : Gd) (p : Prg) (n : Nat) (c : CC) (W : WX) (X : Cx) : Prop where
  K : X.K = g.K
  N : X.N = c.N
  nd : c.N.Nodup
  sc : X.env.scope = c.sc
  fk : c.sc.kind = .function
  fn : ∀ x, c.fn x = true → X.fn x = true
  calm : X.calm = true
  room : Room n X.A
  tk : Takes X W
  po : PassesOwn (model X.prog X.w) X.A X.env X.xe
  bl : ∀ x ∈ bnames, X.mg (x : Str) = none
  top : c.top = true → X.stack = X.env :: X.outer ∧ X.env.frame = some X.env.locals
  lam : c.lam = true → ∃ cA P, X.env.code = .ref cA ∧ LamX.TabB X.base X.mg cA P ∧ (P, X.env.qual ++ ("<lambda>" : Str)) ∈ g.tb ∧ ∀ q ∈ g.tb, q.1 = P → q.2 = X.env.qual ++ ("<lambda>" : Str)
  gs : ∀ (i : Nat) (q : Txt × Val), p.gs[i]? = some q → isDct q.2 = false → ∃ u V, X.mg (tx q.1) = some u ∧ RelV V u ∧ ∀ ρ H, Rel g ρ H q.2 V
  gd : ∀ (i : Nat) nm ks xs, p.gs[i]? = some (nm, .dct ks xs) → KdOk g X.K X.w X.mg nm ks xs
  fns : ∀ (f : Nat) (d : Def), p.fns[f]? = some d → FnX g p n X f d
  cls : ∀ (k : Nat) q, p.cs[k]? = some q → Cls X.K (g.ca k) ∧ ∀ f ∈ q.2, NoAttr X.K (g.ca k) (tx f)
  exc : ∀ (i : Nat) x, p.xs[i]? = some x → XcO g p X i x

def seqR : List (Env → Store → Res Val) → Env → Store → Res (List Val)
  | [], _, st => .ok [] st
  | f :: fs, η, st => (f η st).bind fun v st => (seqR fs η st).bind fun vs st => .ok (v :: vs) st
inductive PEs (g : Gd) (W : WX) (X : Cx) : List Expr → List (Env → Store → Res Val) → Prop where
  | nil : PEs g W X [] []
  | cons {e f es fs} (h : PE X e (SE g W f)) (t : PEs g W X es fs) : PEs g W X (e :: es) (f :: fs)
structure Snd (g : Gd) (p : Prg) (n : Nat) (c : CC) (W : WX) (X : Cx) (ex : Ex) : Prop where
  v : ∀ e, (chk p ex c).v e = true → PE X e (SE g W (evA ⟨callN p n, p.gs⟩ ex).v)
  t : ∀ e, (chk p ex c).v e = true → PT X e (STt g W (evA ⟨callN p n, p.gs⟩ ex).t)
  w : ∀ op vs pos, (chk p ex c).v (.BoolOp op vs pos) = true → PW X (.BoolOp op vs pos) (STt g W (evA ⟨callN p n, p.gs⟩ ex).t)
  s : ∀ es, (chk p ex c).s es = true → (∀ e ∈ es, noStar e = true) ∧ PA X es (SA g W (evA ⟨callN p n, p.gs⟩ ex).s)
  o : ∀ oe, (chk p ex c).o oe = true → PO X oe (SO g W (evA ⟨callN p n, p.gs⟩ ex).o)
  i : ∀ tg e, (chk p ex c).i e = true → PI X tg e (SI g W (evA ⟨callN p n, p.gs⟩ ex).i)
  l : ∀ es, (chk p ex c).s es = true → ∃ fs, PEs g W X es fs ∧ (evA ⟨callN p n, p.gs⟩ ex).s = seqR fs

section
variable {g : Gd} {p : Prg} {n : Nat} {c : CC} {W : WX} {X : Cx}
/-! small facts of a context -/
theorem CxS.gl (S : CxS g p n c W X) {x : Str} (h : glB c x = true) : Gl X x := by
  unfold glB kindIn at h
  show X.env.scope.names.lookup x = _
  rw [S.sc]
  split at h
  · assumption
  · cases h
theorem CxS.vis (S : CxS g p n c W X) {x : Str} (h : visB c x = true) : Vis X.env.scope x := by
  unfold visB kindIn at h
  rw [S.sc]
  split at h
  · exact .inl (by assumption)
  · exact .inr (.inl (by assumption))
  · exact .inr (.inr (by assumption))
  · cases h
theorem CxS.tg (S : CxS g p n c W X) {x : Str} (h : tgB c x = true) : Loc X.env.scope x ∧ (X.fn x = true ∨ X.env.scope.names.lookup x = some .local) := by
  unfold tgB kindIn at h
  rw [S.sc]
  split at h
  · rename_i e; exact ⟨.inl e, .inr e⟩
  · rename_i e; exact ⟨.inr e, .inl (S.fn x h)⟩
  · cases h
theorem CxS.units (S : CxS g p n c W X) : X.A.units + 64 < cLine := S.room.units
theorem dbg_of {x : Str} (h : noDbg x = true) : (x == ("__debug__" : Str)) = false ∧ (x == ("__classdict__" : Str)) = false ∧ x ≠ ("__name__" : Str) := by
  unfold noDbg at h
  simp only [Bool.and_eq_true, Bool.not_eq_true', decide_eq_false_iff_not] at h
  refine ⟨?_, ?_, h.2⟩
  · simpa using h.1.1
  · simpa using h.1.2
theorem blt_of (S : CxS g p n c W X) {x : Str} {m : String} (h : bltB c x m = true) (hm : m ∈ bnames) : Gl X x ∧ X.mg x = none ∧ x = (m : Str) := by
  unfold bltB at h
  simp only [Bool.and_eq_true, decide_eq_true_eq] at h
  exact ⟨S.gl h.1, by rw [h.2]; exact S.bl m hm, h.2⟩
theorem star_cons {e : Expr} {es : List Expr} {env : PySem.Env} (h : noStar e = true) : starEach (e :: es) env = (false, eval e env) :: starEach es env := by
  cases e <;> first | rfl | cases h
theorem star_any {es : List Expr} {env : PySem.Env} {pos : Pos} (h : ∀ e ∈ es, noStar e = true) : (backTo pos (starEach es env)).any (·.1) = false := by
  induction es with
  | nil => rfl
  | cons e es ih =>
    rw [star_cons (h e List.mem_cons_self)]
    show (false || (backTo pos (starEach es env)).any (·.1)) = false
    rw [ih fun z hz => h z (List.mem_cons_of_mem _ hz)]; rfl
theorem star_all {es : List Expr} {env : PySem.Env} {pos : Pos} (h : ∀ e ∈ es, noStar e = true) : (backTo pos (starEach es env)).all (fun x => !x.1) = true := by
  induction es with
  | nil => rfl
  | cons e es ih =>
    rw [star_cons (h e List.mem_cons_self)]
    show (true && (backTo pos (starEach es env)).all (fun x => !x.1)) = true
    rw [ih fun z hz => h z (List.mem_cons_of_mem _ hz)]; rfl
theorem isTrue_plain {e : Expr} {env : PySem.Env} (h : plainTest e = true) : ∀ whole, isTrue e env whole = (do let v ← whole; standAt e.pos; holding [v] (truthy v)) := by
  intro whole
  cases e with
  | UnaryOp op x pos => cases op <;> first | rfl | cases h
  | _ => first | rfl | cases h
theorem plainIx {b : Expr} (h : noSlice b = true) : PlainIx b := by
  intro o i
  cases b <;> first | rfl | cases h
theorem noMarks {op : CmpOp} {b : Expr} (h : noSet b = true) : behindInMarks op b = false := by
  cases b <;> first | rfl | cases h
theorem noFold {e : Expr} {env : PySem.Env} (h : noSet e = true) : ∀ x, foldedSetIterable e env x = pure x := by
  intro x
  cases e <;> first | rfl | cases h

/-! tests, parts, walks of a plain value -/
theorem stt_se {F : Env → Store → Res Val} {σ : St} {H : Hp} {Q : Bool → Hp → Prop} (h : STt g W (plain F).t σ H Q) : SE g W F σ H fun x H1 => ∃ b, x = .bl b ∧ Q b H1 := by
  obtain ⟨ρ, st, η, w, s, q⟩ := h
  refine ⟨ρ, st, η, w, s, Post.imp (Post.bind q) fun v ρ1 st1 H1 e1 w1 q1 V rv => ?_⟩
  obtain ⟨b, hb, q2⟩ := Post.opt q1
  cases v <;> simp only [truth, reduceCtorEq, Option.some.injEq] at hb
  subst hb
  simp only [Rel] at rv
  exact ⟨_, rv, q2 ρ1 H1 Ext.refl w1⟩
theorem pt_plain {F : Env → Store → Res Val} {e : Expr} (h : PE X e (SE g W F)) (hp : plainTest e = true) : PT X e (STt g W (plain F).t) :=
  PT.imp (pt_val h (isTrue_plain hp)) fun σ H Q q => stt_se q
theorem so_se {F : Env → Store → Res Val} {σ : St} {H : Hp} {Q : Option Int → Hp → Prop} (h : SO g W (plain F).o σ H Q) : SE g W F σ H fun x H1 => ∃ i, x = .int i ∧ Q (some i) H1 := by
  obtain ⟨ρ, st, η, w, s, q⟩ := h
  refine ⟨ρ, st, η, w, s, Post.imp (Post.bind q) fun v ρ1 st1 H1 e1 w1 q1 V rv => ?_⟩
  cases v with
  | int i =>
    simp only [Rel] at rv
    exact ⟨i, rv, q1 ρ1 H1 Ext.refl w1⟩
  | _ => exact (show False from q1).elim
theorem PO.imp {e : Option Expr} {t t' : TO} (h : PO X e t) (k : ∀ σ H Q, t' σ H Q → t σ H Q) : PO X e t' := ⟨fun pins s σ H Q I q => h.run pins s σ H Q I (k _ _ _ q)⟩
theorem po_plain {F : Env → Store → Res Val} {e : Expr} (h : PE X e (SE g W F)) : PO X (some e) (SO g W (plain F).o) :=
  PO.imp (po_some h) fun σ H Q q => so_se q

/-! iterators -/
theorem ck_none {xs : List Val} {st : Store} : ckOf none xs st = true := rfl
theorem wk_list {ρ : List Addr} {H : Hp} {m : Option Nat} {xs : List Val} {a : Addr} (hK : X.K = g.K) (h : ∀ ρ' st' H', Ext ρ H ρ' H' → Wd g ρ' st' H' → ckOf m xs st' = true → ∃ vs, SqL g.K H' a vs ∧ Rels g ρ' H' xs vs) :
    Wk g (Itl X.K a) m xs ρ H := by
  intro ρ' st' H' e w ck
  obtain ⟨vs, h1, h2⟩ := h ρ' st' H' e w ck
  refine ⟨fun i x hx => ?_, fun i hi => ⟨vs, hK ▸ h1, by rw [← h2.length]; exact hi⟩⟩
  obtain ⟨v, hv, rv⟩ := h2.get hx
  refine ⟨⟨vs, v, hK ▸ h1, hv⟩, fun V H2 y => ?_⟩
  obtain ⟨e2, y⟩ := y
  have := y vs (hK ▸ h1)
  rw [hv] at this
  cases this
  exact ⟨e2, rv⟩
theorem wk_tup {ρ : List Addr} {H : Hp} {xs : List Val} {a : Addr} {vs : List V} (hK : X.K = g.K) (h : H a = some (.tup vs) ∨ KTup g.K a vs) (r : Rels g ρ H xs vs) : Wk g (Itt X.K a) none xs ρ H := by
  intro ρ' st' H' e w ck
  have h1 : SqT X.K H' a vs := by
    rw [hK]
    rcases h with h | h
    · exact .inl (.inl (e.tup _ _ h))
    · exact .inr h
  have h2 := r.ext e
  refine ⟨fun i x hx => ?_, fun i hi => ⟨vs, h1, by rw [← h2.length]; exact hi⟩⟩
  obtain ⟨v, hv, rv⟩ := h2.get hx
  refine ⟨⟨vs, v, h1, hv⟩, fun V H2 y => ?_⟩
  obtain ⟨e2, y⟩ := y
  have := y vs h1
  rw [hv] at this
  cases this
  exact ⟨e2, rv⟩
theorem wk_str {ρ : List Addr} {H : Hp} {s : Txt} (hl : s.length ≤ sizeLine) : Wk g (Its (tx s)) none (s.map fun c => .str [c]) ρ H := by
  intro ρ' st' H' e w ck
  refine ⟨fun i x hx => ?_, fun i hi => ?_⟩
  · rw [List.getElem?_map] at hx
    cases q : s[i]? with
    | none => rw [q] at hx; cases hx
    | some d =>
      rw [q] at hx
      cases hx
      have hq : (tx s).cps[i]? = some d := by simpa [tx] using q
      refine ⟨?_, fun V H2 y => ?_⟩
      · have := (List.getElem?_eq_some_iff.mp q).1
        show i < (tx s).cps.size
        simpa [tx] using this
      · obtain ⟨e2, c', hc, rfl⟩ := y
        rw [hq] at hc
        cases hc
        exact ⟨e2, rel_str (x := [d]) (show 1 ≤ sizeLine by decide)⟩
  · show (tx s).cps.size ≤ i
    rw [List.length_map] at hi
    simpa [tx] using hi
theorem wk_keys {ρ : List Addr} {H : Hp} {ks : List Txt} {d : Addr} {o : Obj} {kvs : List (Key × V)} (h : H d = some (.frz o (.dK kvs))) (e0 : kvs.map (·.1) = ks.map tk) (hk : KsOk ks) : Wk g (Itk d o kvs) none (ks.map .str) ρ H := by
  intro ρ' st' H' e w ck
  have h1 := e.frz _ _ _ h
  have hl : kvs.length = ks.length := by
    have := congrArg List.length e0
    simpa using this
  refine ⟨fun i x hx => ?_, fun i hi => ⟨h1, by rw [List.length_map] at hi; omega⟩⟩
  rw [List.getElem?_map] at hx
  cases q : ks[i]? with
  | none => rw [q] at hx; cases hx
  | some t =>
    rw [q] at hx
    cases hx
    have lt := (List.getElem?_eq_some_iff.mp q).1
    refine ⟨⟨h1, by omega⟩, fun V H2 y => ?_⟩
    obtain ⟨e2, k, v, hkv, rfl⟩ := y
    have q2 : (kvs.map (·.1))[i]? = some k := by rw [List.getElem?_map, hkv]; rfl
    rw [e0, List.getElem?_map, q] at q2
    cases q2
    exact ⟨e2, rel_str (hk t (List.mem_of_getElem? q))⟩
theorem pi_plain {F : Env → Store → Res Val} {e tg : Expr} (S : CxS g p n c W X) (h : PE X e (SE g W F)) : PI X tg e (SI g W (plain F).i) := by
  refine ⟨fun pins s σ H R I q => ?_⟩
  obtain ⟨ρ, st, η, w, sl, q⟩ := q
  have hK := S.K
  have q1 := Post.bind q
  -- the value's form is known ahead
  cases hF : F η st with
  | no =>
    rw [hF] at q1
    exact (show False from q1).elim
  | ex x st1 =>
    rw [hF] at q1
    refine (pi_list h).run pins s σ H R I ⟨ρ, st, η, w, sl, ?_⟩
    rw [hF]; exact q1
  | ok x st1 =>
    rw [hF] at q1
    have fin : ∀ {ρ1 : List Addr} {H1 : Hp}, Ext ρ H ρ1 H1 → Wd g ρ1 st1 H1 → ∃ r, itemsOf st1 x = some r ∧ (ckOf r.2 r.1 st1 = true ∧ ∀ J, Wk g J r.2 r.1 ρ1 H1 → R J H1) := fun {ρ1 H1} e1 w1 => by
      obtain ⟨r, hr, q2⟩ := Post.opt (q1 ρ1 H1 e1 w1)
      exact ⟨r, hr, q2 ρ1 H1 Ext.refl w1⟩
    cases x with
    | lst xs =>
      refine (pi_list h).run pins s σ H R I ⟨ρ, st, η, w, sl, ?_⟩
      rw [hF]
      intro ρ1 H1 e1 w1 V rv
      obtain ⟨r, hr, ck, q2⟩ := fin e1 w1
      simp only [itemsOf, Option.some.injEq] at hr
      subst hr
      simp only [Rel] at rv
      obtain ⟨a, vs, rfl, h1, _, h2⟩ := rv
      refine ⟨a, rfl, ⟨vs, hK ▸ sqL_of h1⟩, q2 _ (wk_list hK fun ρ' st' H' e' w' _ => ?_)⟩
      refine ⟨vs, ?_, h2.ext e'⟩
      rcases h1 with ⟨o, h1⟩ | h1
      · exact .inl (.inr ⟨o, e'.frz _ _ _ h1⟩)
      · exact .inr h1
    | tup xs =>
      refine (pi_tup h).run pins s σ H R I ⟨ρ, st, η, w, sl, ?_⟩
      rw [hF]
      intro ρ1 H1 e1 w1 V rv
      obtain ⟨r, hr, ck, q2⟩ := fin e1 w1
      simp only [itemsOf, Option.some.injEq] at hr
      subst hr
      simp only [Rel] at rv
      obtain ⟨a, vs, rfl, h1, _, h2⟩ := rv
      exact ⟨a, rfl, ⟨vs, hK ▸ sqT_of h1⟩, q2 _ (wk_tup hK h1 h2)⟩
    | str t =>
      refine (pi_str h).run pins s σ H R I ⟨ρ, st, η, w, sl, ?_⟩
      rw [hF]
      intro ρ1 H1 e1 w1 V rv
      obtain ⟨r, hr, ck, q2⟩ := fin e1 w1
      simp only [itemsOf, Option.some.injEq] at hr
      subst hr
      simp only [Rel] at rv
      obtain ⟨rfl, hl⟩ := rv
      exact ⟨tx t, rfl, q2 _ (wk_str hl)⟩
    | dct ks xs =>
      refine (pi_keys h).run pins s σ H R I ⟨ρ, st, η, w, sl, ?_⟩
      rw [hF]
      intro ρ1 H1 e1 w1 V rv
      obtain ⟨r, hr, ck, q2⟩ := fin e1 w1
      simp only [itemsOf, Option.some.injEq] at hr
      subst hr
      simp only [Rel] at rv
      obtain ⟨d, kvs, rfl, ⟨o, h1⟩, _, ⟨h2, h3⟩, _⟩ := rv
      exact ⟨d, o, rfl, .inl ⟨kvs, h1, q2 _ (wk_keys h1 h2 h3)⟩⟩
    | loc m =>
      refine (pi_list h).run pins s σ H R I ⟨ρ, st, η, w, sl, ?_⟩
      rw [hF]
      intro ρ1 H1 e1 w1 V rv
      obtain ⟨r, hr, ck, q2⟩ := fin e1 w1
      simp only [Rel] at rv
      obtain ⟨a, rfl, hp⟩ := rv
      simp only [itemsOf] at hr
      split at hr
      · rename_i xs ex
        simp only [Option.some.injEq] at hr
        subst hr
        obtain ⟨vs, h1, _, h2⟩ := w1.ob m _ a ex hp
        refine ⟨a, rfl, ⟨vs, .inl (.inl h1)⟩, q2 _ (wk_list hK fun ρ' st' H' e' w' ck' => ?_)⟩
        have ex' : st'[m]? = some (.lst xs) := by
          exact @of_decide_eq_true _ (Classical.propDecidable _) ck'
        obtain ⟨pre, hpre⟩ := e'.pre
        have hp' : ρ'[m]? = some a := by
          rw [hpre, List.getElem?_append_left (List.getElem?_eq_some_iff.mp hp).1]; exact hp
        obtain ⟨vs', h1', _, h2'⟩ := w'.ob m _ a ex' hp'
        exact ⟨vs', .inl (.inl h1'), h2'⟩
      · cases hr
    | _ =>
      refine (pi_list h).run pins s σ H R I ⟨ρ, st, η, w, sl, ?_⟩
      rw [hF]
      intro ρ1 H1 e1 w1 V rv
      obtain ⟨r, hr, ck, q2⟩ := fin e1 w1
      simp [itemsOf] at hr
end
end Mi
namespace Mi
open PySem L2

section
variable {g : Gd} {p : Prg} {n : Nat} {c : CC} {W : WX} {X : Cx}
theorem snd_ck0 {ex : Ex} (hc : chk p ex c = ck0) : Snd g p n c W X ex := by
  refine ⟨fun e h => ?_, fun e h => ?_, fun op vs pos h => ?_, fun es h => ?_, fun oe h => ?_, fun tg e h => ?_, fun es h => ?_⟩ <;> (rw [hc] at h; exact nomatch (show false = true from h))
/-- from the value alone -/
theorem snd_plain (S : CxS g p n c W X) {ex : Ex} {F : Env → Store → Res Val} {ck : Expr → Bool} (hc : chk p ex c = ckV ck) (he : evA ⟨callN p n, p.gs⟩ ex = plain F) (hp : ∀ e, ck e = true → plainTest e = true) (hv : ∀ e, ck e = true → PE X e (SE g W F)) : Snd g p n c W X ex := by
  refine ⟨fun e h => ?_, fun e h => ?_, fun op vs pos h => ?_, fun es h => ?_, fun oe h => ?_, fun tg e h => ?_, fun es h => ?_⟩
  · rw [hc] at h; rw [he]; exact hv e h
  · rw [hc] at h; rw [he]; exact pt_plain (hv e h) (hp e h)
  · rw [hc] at h; exact nomatch (show false = true from hp _ h)
  · rw [hc] at h; exact nomatch (show false = true from h)
  · rw [hc] at h; rw [he]
    cases oe with
    | none => exact nomatch (show false = true from h)
    | some e => exact po_plain (hv e h)
  · rw [hc] at h; rw [he]; exact pi_plain S (hv e h)
  · rw [hc] at h; exact nomatch (show false = true from h)
theorem r2v_of {f : Store → Val → Val → Option Val} {ρ : List Addr} {st : Store} {H : Hp} {x y : Val} {V U : L2.V} {Q : VK} {E : Value → Option Addr → Hp → Prop} (w : Wd g ρ st H) (rx : Rel g ρ H x V) (ry : Rel g ρ H y U)
    (q : Post g E ρ H (opt (f st x y) st) fun v ρ' _ H' => ∀ V, Rel g ρ' H' v V → Q V H') : R2v g f V U H Q := by
  obtain ⟨v, hv, q⟩ := Post.opt q
  exact ⟨ρ, st, x, y, v, w, rx, ry, hv, q⟩
theorem rcv_of {f : Store → List Val → Option Val} {ρ : List Addr} {st : Store} {H : Hp} {xs : List Val} {vs : List V} {Q : VK} {E : Value → Option Addr → Hp → Prop} (w : Wd g ρ st H) (rx : Rels g ρ H xs vs)
    (q : Post g E ρ H (opt (f st xs) st) fun v ρ' _ H' => ∀ V, Rel g ρ' H' v V → Q V H') : RCv g f vs H Q := by
  obtain ⟨v, hv, q⟩ := Post.opt q
  exact ⟨ρ, st, xs, v, w, rx, hv, q⟩
theorem if_ok {α : Type} {b : Prop} [Decidable b] {r : Res α} {ρ : List Addr} {H : Hp} {E : Value → Option Addr → Hp → Prop} {Q : α → List Addr → Store → Hp → Prop} (h : Post g E ρ H (if b then r else .no) Q) : b ∧ Post g E ρ H r Q := by
  by_cases hb : b
  · rw [if_pos hb] at h; exact ⟨hb, h⟩
  · rw [if_neg hb] at h; exact (show False from h).elim

/-! names, constants -/
theorem snd_bad (S : CxS g p n c W X) : Snd g p n c W X .bad := by
  refine ⟨fun e _ => ⟨fun pins s σ H Q I h => ?_⟩, fun e _ => ⟨fun pins s σ H Q I h => ?_⟩, fun op vs pos _ => ⟨fun wh pins s σ H Q I h => ?_⟩, fun es h => ?_, fun oe h => ?_, fun tg e h => ?_, fun es h => ?_⟩
  · obtain ⟨_, _, _, _, _, q⟩ := h; exact (show False from q).elim
  · obtain ⟨_, _, _, _, _, q⟩ := h; exact (show False from q).elim
  · obtain ⟨_, _, _, _, _, q⟩ := h; exact (show False from q).elim
  · exact nomatch (show false = true from h)
  · exact nomatch (show false = true from h)
  · exact nomatch (show false = true from h)
  · exact nomatch (show false = true from h)
theorem snd_var (S : CxS g p n c W X) (i : Nat) : Snd g p n c W X (.var i) := by
  refine snd_plain S rfl rfl (fun e h => ?_) (fun e h => ?_)
  · cases e <;> first | rfl | exact nomatch (show false = true from h)
  · cases e with
    | Name x pos =>
      simp only [Bool.and_eq_true, decide_eq_true_eq] at h
      obtain ⟨⟨h1, h2⟩, h3⟩ := h
      obtain ⟨d1, d2, _⟩ := dbg_of h3
      refine PE.imp (pe_var (i := i) (by rw [S.N]; exact h1) (S.vis h2) d1 d2) fun σ H Q q => ?_
      obtain ⟨ρ, st, η, w, sl, q⟩ := q
      dsimp only at q
      split at q
      · rename_i v hv
        obtain ⟨V, hV, rv⟩ := sl.2 i v hv
        exact ⟨V, hV, q ρ H Ext.refl w V rv⟩
      · exact (show False from q).elim
    | _ => exact nomatch (show false = true from h)
theorem lit_rel {v : Val} {k : Const} (h : litB v k = true) : (v = .non ∧ k = .none) ∨ (∃ b, v = .bl b ∧ k = .bool b) ∨ (∃ b, v = .int b ∧ k = .int b) ∨ (∃ b, v = .str b ∧ k = .str (tx b) ∧ b.length ≤ sizeLine) := by
  cases v <;> cases k <;> first | exact nomatch (show false = true from h) | skip
  · exact .inl ⟨rfl, rfl⟩
  · exact .inr (.inl ⟨_, rfl, by rw [show _ = _ from eq_of_beq h]⟩)
  · exact .inr (.inr (.inl ⟨_, rfl, by rw [show _ = _ from of_decide_eq_true h]⟩))
  · simp only [litB, Bool.and_eq_true, decide_eq_true_eq] at h
    exact .inr (.inr (.inr ⟨_, rfl, by rw [h.1], h.2⟩))
theorem snd_lit (S : CxS g p n c W X) (v : Val) : Snd g p n c W X (.lit v) := by
  refine snd_plain S rfl rfl (fun e h => ?_) (fun e h => ?_)
  · cases e <;> first | rfl | exact nomatch (show false = true from h)
  · cases e with
    | Constant k j pos =>
      rcases lit_rel h with ⟨rfl, rfl⟩ | ⟨b, rfl, rfl⟩ | ⟨b, rfl, rfl⟩ | ⟨b, rfl, rfl, hl⟩
      · refine PE.imp pe_non fun σ H Q q => ?_
        obtain ⟨ρ, st, η, w, sl, q⟩ := q
        exact q ρ H Ext.refl w _ rel_non
      · refine PE.imp pe_bl fun σ H Q q => ?_
        obtain ⟨ρ, st, η, w, sl, q⟩ := q
        exact q ρ H Ext.refl w _ rel_bl
      · refine PE.imp pe_int fun σ H Q q => ?_
        obtain ⟨ρ, st, η, w, sl, q⟩ := q
        exact q ρ H Ext.refl w _ rel_int
      · refine PE.imp pe_str fun σ H Q q => ?_
        obtain ⟨ρ, st, η, w, sl, q⟩ := q
        exact q ρ H Ext.refl w _ (rel_str hl)
    | _ => exact nomatch (show false = true from h)
theorem snd_glb (S : CxS g p n c W X) (i : Nat) : Snd g p n c W X (.glb i) := by
  refine snd_plain S rfl rfl (fun e h => ?_) (fun e h => ?_)
  · cases e <;> first | rfl | exact nomatch (show false = true from h)
  · cases e with
    | Name x pos =>
      simp only [Bool.and_eq_true] at h
      obtain ⟨⟨h1, h2⟩, h3⟩ := h
      obtain ⟨d1, _, _⟩ := dbg_of h2
      split at h3
      · rename_i q hq
        simp only [Bool.and_eq_true, decide_eq_true_eq, Bool.not_eq_true'] at h3
        obtain ⟨e, nd⟩ := h3
        subst e
        obtain ⟨u, V, hu, rv, rl⟩ := S.gs i q hq nd
        refine PE.imp (pe_glob (S.gl h1) hu rv d1) fun σ H Q qq => ?_
        obtain ⟨ρ, st, η, w, sl, qq⟩ := qq
        dsimp only at qq
        rw [hq] at qq
        exact qq ρ H Ext.refl w V (rl ρ H)
      · cases h3
    | _ => exact nomatch (show false = true from h)
/-! argument lists -/
theorem snd_nil (S : CxS g p n c W X) : Snd g p n c W X .nil := by
  refine ⟨fun e h => ?_, fun e h => ?_, fun op vs pos h => ?_, fun es h => ?_, fun oe h => ?_, fun tg e h => ?_, fun es h => ?_⟩
  · exact nomatch (show false = true from h)
  · exact nomatch (show false = true from h)
  · exact nomatch (show false = true from h)
  · cases es with
    | cons _ _ => exact nomatch (show false = true from h)
    | nil =>
      refine ⟨fun _ z => (List.not_mem_nil z).elim, PA.imp pa_nil fun σ H Q q => ?_⟩
      obtain ⟨ρ, st, η, w, sl, q⟩ := q
      exact q ρ H Ext.refl w [] Rels.nil
  · cases oe with
    | some _ => exact nomatch (show false = true from h)
    | none =>
      refine PO.imp po_none fun σ H Q q => ?_
      obtain ⟨ρ, st, η, w, sl, q⟩ := q
      exact q ρ H Ext.refl w
  · exact nomatch (show false = true from h)
  · cases es with
    | cons _ _ => exact nomatch (show false = true from h)
    | nil => exact ⟨[], .nil, rfl⟩
theorem snd_cons (S : CxS g p n c W X) {a as : Ex} (ha : Snd g p n c W X a) (hs : Snd g p n c W X as) : Snd g p n c W X (.cons a as) := by
  refine ⟨fun e h => ?_, fun e h => ?_, fun op vs pos h => ?_, fun es h => ?_, fun oe h => ?_, fun tg e h => ?_, fun es h => ?_⟩
  · exact nomatch (show false = true from h)
  · exact nomatch (show false = true from h)
  · exact nomatch (show false = true from h)
  · cases es with
    | nil => exact nomatch (show false = true from h)
    | cons e es =>
      have h : (noStar e && (chk p a c).v e && (chk p as c).s es) = true := h
      simp only [Bool.and_eq_true] at h
      obtain ⟨⟨h1, h2⟩, h3⟩ := h
      obtain ⟨k1, k2⟩ := hs.s es h3
      refine ⟨fun z hz => ?_, PA.imp (pa_cons (ha.v e h2) k2 (star_cons h1)) fun σ H Q q => ?_⟩
      · rcases List.mem_cons.mp hz with rfl | hz
        · exact h1
        · exact k1 z hz
      · obtain ⟨ρ, st, η, w, sl, q⟩ := q
        refine ⟨ρ, st, η, w, sl, (Post.bind q).imp fun v ρ1 st1 H1 e1 w1 q1 V rv => ?_⟩
        refine ⟨ρ1, st1, η, w1, sl.ext e1, (Post.bind q1).imp fun vs ρ2 st2 H2 e2 w2 q2 Vs rvs => ?_⟩
        exact q2 ρ2 H2 Ext.refl w2 _ (.cons (rv.ext e2) rvs)
  · exact nomatch (show false = true from h)
  · exact nomatch (show false = true from h)
  · cases es with
    | nil => exact nomatch (show false = true from h)
    | cons e es =>
      have h : (noStar e && (chk p a c).v e && (chk p as c).s es) = true := h
      simp only [Bool.and_eq_true] at h
      obtain ⟨fs, k1, k2⟩ := hs.l es h.2
      refine ⟨(evA ⟨callN p n, p.gs⟩ a).v :: fs, .cons (ha.v e h.1.2) k1, ?_⟩
      funext η st
      show ((evA ⟨callN p n, p.gs⟩ a).v η st).bind _ = _
      rw [seqR, ← k2]
/-! displays -/
theorem snd_tup (S : CxS g p n c W X) {as : Ex} (hs : Snd g p n c W X as) : Snd g p n c W X (.tup as) := by
  refine snd_plain S rfl rfl (fun e h => ?_) (fun e h => ?_)
  · cases e <;> first | rfl | exact nomatch (show false = true from h)
  · cases e with
    | Tuple es k pos =>
      refine PE.imp (pe_tup (hs.s es h).2) (se_args (fun _ _ => rfl) (r := fun σ vs H Q => vs.length ≤ sizeLine ∧ ∀ p, H p = none → Q (.ref p) (upd H p (.tup vs))) fun ρ st H σ xs vs Q w r q => ?_)
      obtain ⟨hl, q⟩ := if_ok q
      exact ⟨by rw [← r.length]; exact hl, fun a ha => q ρ _ (Ext.new ha) (w.new ha) _ (newT w r hl ha)⟩
    | _ => exact nomatch (show false = true from h)
theorem snd_lst (S : CxS g p n c W X) {as : Ex} (hs : Snd g p n c W X as) : Snd g p n c W X (.lst as) := by
  refine snd_plain S rfl rfl (fun e h => ?_) (fun e h => ?_)
  · cases e <;> first | rfl | exact nomatch (show false = true from h)
  · cases e with
    | List es pos =>
      refine PE.imp (PE.sh (pe_lst (hs.s es h).2)) (se_args (fun _ _ => rfl) (r := fun σ vs H Q => vs.length ≤ sizeLine ∧ ∀ p, H p = none → Sh Q (.ref p) (upd H p (.lst vs))) fun ρ st H σ xs vs Q w r q => ?_)
      obtain ⟨hl, q⟩ := if_ok q
      exact ⟨by rw [← r.length]; exact hl, fun a ha => shL w r hl q ha⟩
    | _ => exact nomatch (show false = true from h)
theorem snd_new (S : CxS g p n c W X) {as : Ex} (hs : Snd g p n c W X as) : Snd g p n c W X (.new as) := by
  refine snd_plain S rfl rfl (fun e h => ?_) (fun e h => ?_)
  · cases e <;> first | rfl | exact nomatch (show false = true from h)
  · cases e with
    | List es pos =>
      refine PE.imp (pe_lst (hs.s es h).2) (se_args (fun _ _ => rfl) (r := fun σ vs H Q => vs.length ≤ sizeLine ∧ ∀ p, H p = none → Q (.ref p) (upd H p (.lst vs))) fun ρ st H σ xs vs Q w r q => ?_)
      obtain ⟨hl, q⟩ := if_ok q
      refine ⟨by rw [← r.length]; exact hl, fun a ha => q (ρ ++ [a]) _ (Ext.alloc ha) (w.alloc ha ⟨vs, upd_same, hl, r.ext (Ext.alloc ha)⟩) _ ?_⟩
      simp only [Rel]
      exact ⟨a, rfl, by rw [← w.len]; simp⟩
    | _ => exact nomatch (show false = true from h)
/-! operators -/
theorem snd_bin (S : CxS g p n c W X) {a b : Ex} (o : BO) (ha : Snd g p n c W X a) (hb : Snd g p n c W X b) : Snd g p n c W X (.bin o a b) := by
  refine snd_plain S rfl rfl (fun e h => ?_) (fun e h => ?_)
  · cases e <;> first | rfl | exact nomatch (show false = true from h)
  · cases e with
    | BinOp x op y pos =>
      have h : (boB o op && (chk p a c).v x && (chk p b c).v y) = true := h
      simp only [Bool.and_eq_true] at h
      obtain ⟨⟨h1, h2⟩, h3⟩ := h
      have eo : op = bo o := by cases o <;> cases op <;> first | rfl | exact nomatch (show false = true from h1)
      subst eo
      exact PE.imp (pe_op (opB S.K o) (ha.v x h2) (hb.v y h3)) (se_bin (fun _ _ => rfl) fun ρ st H σ x y V U Q w rx ry q => r2v_of w rx ry q)
    | _ => exact nomatch (show false = true from h)
theorem co_eq {o : CO} {op : CmpOp} (h : coB o op = true) : op = co o := by cases o <;> cases op <;> first | rfl | exact nomatch (show false = true from h)
theorem snd_cmp (S : CxS g p n c W X) {a b : Ex} (o : CO) (ha : Snd g p n c W X a) (hb : Snd g p n c W X b) : Snd g p n c W X (.cmp o a b) := by
  have key : ∀ x y op pos, (coB o op && noSet y && (chk p a c).v x && (chk p b c).v y) = true → PE X (.Compare x [op] [y] pos) (SE g W (evA ⟨callN p n, p.gs⟩ (.cmp o a b)).v) ∧ PT X (.Compare x [op] [y] pos) (STt g W (evA ⟨callN p n, p.gs⟩ (.cmp o a b)).t) := fun x y op pos h => by
    simp only [Bool.and_eq_true] at h
    obtain ⟨⟨⟨h1, h2⟩, h3⟩, h4⟩ := h
    have eo := co_eq h1
    subst eo
    have rd : ∀ σ H Q, SE g W (evA ⟨callN p n, p.gs⟩ (.cmp o a b)).v σ H Q → tOp (R2v g fun st a b => (cmpV st o a b).map .bl) (SE g W (evA ⟨callN p n, p.gs⟩ a).v) (SE g W (evA ⟨callN p n, p.gs⟩ b).v) σ H Q :=
      se_bin (fun _ _ => rfl) fun ρ st H σ x y V U Q w rx ry q => r2v_of w rx ry q
    exact ⟨PE.imp (pe_cmpR (opC S.K S.units o) (ha.v x h3) (hb.v y h4) (noMarks h2)) rd, PT.imp (pt_cmpR (opC S.K S.units o) (ha.v x h3) (hb.v y h4) (noMarks h2)) fun σ H Q q => rd σ H _ (stt_se q)⟩
  have form : ∀ e, (chk p (.cmp o a b) c).v e = true → ∃ x op y pos, e = .Compare x [op] [y] pos ∧ (coB o op && noSet y && (chk p a c).v x && (chk p b c).v y) = true := fun e h => by
    simp only [chk, ckV] at h
    split at h
    · exact ⟨_, _, _, _, rfl, h⟩
    · cases h
  refine ⟨fun e h => ?_, fun e h => ?_, fun op vs pos h => (nomatch (show false = true from h)), fun es h => (nomatch (show false = true from h)), fun oe h => ?_, fun tg e h => ?_, fun es h => ?_⟩
  · obtain ⟨x, op, y, pos, rfl, h⟩ := form e h; exact (key x y op pos h).1
  · obtain ⟨x, op, y, pos, rfl, h⟩ := form e h; exact (key x y op pos h).2
  · cases oe with
    | none => exact nomatch (show false = true from h)
    | some e => obtain ⟨x, op, y, pos, rfl, h⟩ := form e h; exact po_plain (key x y op pos h).1
  · obtain ⟨x, op, y, pos, rfl, h⟩ := form e h; exact pi_plain S (key x y op pos h).1
  · exact (nomatch (show false = true from h))
/-- a value and a test that differ in form from a plain one -/
theorem snd_test (S : CxS g p n c W X) {ex : Ex} {F : Env → Store → Res Val} {ck : Expr → Bool} (hc : chk p ex c = ckV ck) (he : evA ⟨callN p n, p.gs⟩ ex = plain F) (hb : ∀ op vs pos, ck (.BoolOp op vs pos) = false)
    (hv : ∀ e, ck e = true → PE X e (SE g W F) ∧ PT X e (STt g W (plain F).t)) : Snd g p n c W X ex := by
  refine ⟨fun e h => ?_, fun e h => ?_, fun op vs pos h => ?_, fun es h => ?_, fun oe h => ?_, fun tg e h => ?_, fun es h => ?_⟩
  · rw [hc] at h; rw [he]; exact (hv e h).1
  · rw [hc] at h; rw [he]; exact (hv e h).2
  · rw [hc] at h
    have h : ck (.BoolOp op vs pos) = true := h
    rw [hb] at h; cases h
  · rw [hc] at h; exact (nomatch (show false = true from h))
  · rw [hc] at h; rw [he]
    cases oe with
    | none => exact (nomatch (show false = true from h))
    | some e => exact po_plain (hv e h).1
  · rw [hc] at h; rw [he]; exact pi_plain S (hv e h).1
  · rw [hc] at h; exact (nomatch (show false = true from h))
theorem snd_isB (S : CxS g p n c W X) {a : Ex} (yes b : Bool) (ha : Snd g p n c W X a) : Snd g p n c W X (.isB yes b a) := by
  refine snd_test S rfl rfl (fun _ _ _ => rfl) fun e h => ?_
  split at h
  · rename_i x op b' j pos' pos
    simp only [Bool.and_eq_true, decide_eq_true_eq] at h
    obtain ⟨⟨h1, h2⟩, h3⟩ := h
    subst h1 h2
    have rd : ∀ σ H Q, SE g W (fun η st => ((evA ⟨callN p n, p.gs⟩ a).v η st).bind fun x st => match x with | .bl c => .ok (.bl (if yes then c == b' else !(c == b'))) st | _ => .no) σ H Q →
        tOp (fun x y H Q => ∃ a b, x = .bl a ∧ y = .bl b ∧ Q (.bl (if yes then a == b else !(a == b))) H) (SE g W (evA ⟨callN p n, p.gs⟩ a).v) (tC (.bl b')) σ H Q := by
      rintro σ H Q ⟨ρ, st, η, w, sl, q⟩
      refine ⟨ρ, st, η, w, sl, (Post.bind q).imp fun v ρ1 st1 H1 e1 w1 q1 V rv => ?_⟩
      cases v with
      | bl c =>
        simp only [Rel] at rv
        subst rv
        exact ⟨c, b', rfl, rfl, q1 ρ1 H1 Ext.refl w1 _ rel_bl⟩
      | _ => exact (show False from q1).elim
    exact ⟨PE.imp (pe_cmpR (op_isB yes) (ha.v x h3) pe_bl (by cases yes <;> rfl)) rd, PT.imp (pt_cmpR (op_isB yes) (ha.v x h3) pe_bl (by cases yes <;> rfl)) fun σ H Q q => rd σ H _ (stt_se q)⟩
  · cases h
theorem snd_isN (S : CxS g p n c W X) {a : Ex} (yes : Bool) (ha : Snd g p n c W X a) : Snd g p n c W X (.isN yes a) := by
  refine snd_test S rfl rfl (fun _ _ _ => rfl) fun e h => ?_
  split at h
  · rename_i x op j pos' pos
    simp only [Bool.and_eq_true, decide_eq_true_eq] at h
    obtain ⟨h1, h2⟩ := h
    have non : ∀ {ρ : List Addr} {H : Hp} {x : Val} {V : L2.V}, Rel g ρ H x V → (decide (V = .non)) = (match x with | .non => true | _ => false) := fun {ρ H x V} r => by
      cases x <;> simp only [Rel] at r
      · subst r; rfl
      · subst r; rfl
      · subst r; rfl
      · rw [r.1]; rfl
      · obtain ⟨a, vs, rfl, _⟩ := r; rfl
      · obtain ⟨a, vs, rfl, _⟩ := r; rfl
      · obtain ⟨a, vs, rfl, _⟩ := r; rfl
      · obtain ⟨a, rfl, _⟩ := r; rfl
    have rd : ∀ σ H Q, SE g W (fun η st => ((evA ⟨callN p n, p.gs⟩ a).v η st).bind fun x st => match x with | .non => .ok (.bl yes) st | _ => .ok (.bl !yes) st) σ H Q →
        SE g W (evA ⟨callN p n, p.gs⟩ a).v σ H fun V H1 => Q (.bl (if yes then decide (V = .non) else !decide (V = .non))) H1 := by
      refine se_un (fun _ _ => rfl) fun ρ st H σ η x V Q w sl rx q => ?_
      rw [non rx]
      cases x <;> cases yes <;> exact q ρ H Ext.refl w _ rel_bl
    cases yes with
    | true =>
      rw [if_pos rfl] at h1; subst h1
      exact ⟨PE.imp (pe_cmp (pc_isN (ha.v x h2))) rd, PT.imp (pt_cmp (pc_isN (ha.v x h2))) fun σ H Q q => rd σ H _ (stt_se q)⟩
    | false =>
      rw [if_neg (by decide)] at h1; subst h1
      exact ⟨PE.imp (pe_cmp (pc_notN (ha.v x h2))) rd, PT.imp (pt_cmp (pc_notN (ha.v x h2))) fun σ H Q q => rd σ H _ (stt_se q)⟩
  · cases h
theorem snd_neg (S : CxS g p n c W X) {a : Ex} (ha : Snd g p n c W X a) : Snd g p n c W X (.neg a) := by
  refine snd_plain S rfl rfl (fun e h => ?_) (fun e h => ?_)
  · split at h
    · rfl
    · cases h
  · split at h
    · rename_i x pos
      refine PE.imp (pe_un un_neg (ha.v x h)) (se_un (fun _ _ => rfl) fun ρ st H σ η x V Q w sl rx q => ?_)
      cases x with
      | int i =>
        simp only [Rel] at rx
        exact ⟨i, rx, q ρ H Ext.refl w _ rel_int⟩
      | _ => exact (show False from q).elim
    · cases h
theorem snd_chain (S : CxS g p n c W X) {a b d : Ex} (o1 o2 : CO) (ha : Snd g p n c W X a) (hb : Snd g p n c W X b) (hd : Snd g p n c W X d) : Snd g p n c W X (.chain o1 o2 a b d) := by
  refine snd_test S rfl rfl (fun _ _ _ => rfl) fun e h => ?_
  split at h
  · rename_i x op1 op2 y z pos
    simp only [Bool.and_eq_true] at h
    obtain ⟨⟨⟨⟨⟨⟨h1, h2⟩, h3⟩, h4⟩, h5⟩, h6⟩, h7⟩ := h
    have e1 := co_eq h1
    have e2 := co_eq h2
    subst e1 e2
    have hm : lastMarks [co o1, co o2] [y, z] = false := by
      show behindInMarks (co o2) z = false
      exact noMarks h4
    have rd : ∀ σ H Q, SE g W (evA ⟨callN p n, p.gs⟩ (.chain o1 o2 a b d)).v σ H Q → tChain (R2v g fun st a b => (cmpV st o1 a b).map .bl) (R2v g fun st a b => (cmpV st o2 a b).map .bl) (SE g W (evA ⟨callN p n, p.gs⟩ a).v) (SE g W (evA ⟨callN p n, p.gs⟩ b).v) (SE g W (evA ⟨callN p n, p.gs⟩ d).v) σ H Q := by
      rintro σ H Q ⟨ρ, st, η, w, sl, q⟩
      refine ⟨ρ, st, η, w, sl, (Post.bind q).imp fun v ρ1 st1 H1 e1 w1 q1 V rv => ?_⟩
      refine ⟨ρ1, st1, η, w1, sl.ext e1, (Post.bind q1).imp fun u ρ2 st2 H2 e2 w2 q2 U ru => ?_⟩
      have rv2 := rv.ext e2
      cases hc : cmpV st2 o1 v u with
      | none => rw [hc] at q2; exact (show False from q2).elim
      | some k =>
        rw [hc] at q2
        refine ⟨ρ2, st2, v, u, .bl k, w2, rv2, ru, (by show (cmpV st2 o1 v u).map _ = _; rw [hc]; rfl), fun ρ3 H3 e3 w3 V3 r3 => ?_⟩
        simp only [Rel] at r3
        refine ⟨k, r3, ?_⟩
        cases k with
        | false =>
          rw [if_neg (by decide)]
          exact q2 ρ3 H3 e3 w3 _ rel_bl
        | true =>
          rw [if_pos rfl]
          have q3 := Post.mono (Post.bind q2) e3
          refine ⟨ρ3, st2, η, w3, (sl.ext e1).ext (e2.trans e3), q3.imp fun z ρ4 st4 H4 e4 w4 q4 Z rz => ?_⟩
          exact r2v_of w4 ((ru.ext e3).ext e4) rz q4
    exact ⟨PE.imp (pe_chain (opC S.K S.units o1) (opC S.K S.units o2) (ha.v x h5) (hb.v y h6) (hd.v z h7) hm) rd,
      PT.imp (pt_chain (opC S.K S.units o1) (opC S.K S.units o2) (ha.v x h5) (hb.v y h6) (hd.v z h7) hm) fun σ H Q q => rd σ H _ (stt_se q)⟩
  · cases h
theorem snd_ix (S : CxS g p n c W X) {a b : Ex} (ha : Snd g p n c W X a) (hb : Snd g p n c W X b) : Snd g p n c W X (.ix a b) := by
  refine snd_plain S rfl rfl (fun e h => ?_) (fun e h => ?_)
  · cases e <;> first | rfl | exact (nomatch (show false = true from h))
  · cases e with
    | Subscript x y pos =>
      have h : (noSlice y && (chk p a c).v x && (chk p b c).v y) = true := h
      simp only [Bool.and_eq_true] at h
      obtain ⟨⟨h1, h2⟩, h3⟩ := h
      exact PE.imp (pe_ix (opX S.K S.units) (ha.v x h2) (hb.v y h3) (plainIx h1)) (se_bin (fun _ _ => rfl) fun ρ st H σ x y V U Q w rx ry q => r2v_of w rx ry q)
    | _ => exact (nomatch (show false = true from h))
theorem snd_sl (S : CxS g p n c W X) {a lo hi : Ex} (ha : Snd g p n c W X a) (hl : Snd g p n c W X lo) (hh : Snd g p n c W X hi) : Snd g p n c W X (.sl a lo hi) := by
  refine snd_plain S rfl rfl (fun e h => ?_) (fun e h => ?_)
  · split at h
    · rfl
    · cases h
  · split at h
    · rename_i x l u p2 pos
      simp only [Bool.and_eq_true] at h
      obtain ⟨⟨h1, h2⟩, h3⟩ := h
      refine PE.imp (pe_slice (sl_all S.K) (ha.v x h1) (hl.o l h2) (hh.o u h3)) ?_
      rintro σ H Q ⟨ρ, st, η, w, sl, q⟩
      refine ⟨ρ, st, η, w, sl, (Post.bind q).imp fun v ρ1 st1 H1 e1 w1 q1 V rv => ?_⟩
      refine ⟨ρ1, st1, η, w1, sl.ext e1, (Post.bind q1).imp fun l ρ2 st2 H2 e2 w2 q2 => ?_⟩
      refine ⟨ρ2, st2, η, w2, (sl.ext e1).ext e2, (Post.bind q2).imp fun u ρ3 st3 H3 e3 w3 q3 => ?_⟩
      obtain ⟨z, hz, q4⟩ := Post.opt q3
      exact ⟨ρ3, st3, v, z, w3, (rv.ext e2).ext e3, hz, q4⟩
    · cases h
/-! and, or, not, if -/
theorem snd_and (S : CxS g p n c W X) {a b : Ex} (ha : Snd g p n c W X a) (hb : Snd g p n c W X b) : Snd g p n c W X (.and a b) := by
  have rdV : ∀ σ H Q, SE g W (evA ⟨callN p n, p.gs⟩ (.and a b)).v σ H Q → tAndV (SE g W (evA ⟨callN p n, p.gs⟩ a).v) (SE g W (evA ⟨callN p n, p.gs⟩ b).v) σ H Q := by
    rintro σ H Q ⟨ρ, st, η, w, sl, q⟩
    refine ⟨ρ, st, η, w, sl, (Post.bind q).imp fun v ρ1 st1 H1 e1 w1 q1 V rv => ?_⟩
    cases v with
    | bl k =>
      simp only [Rel] at rv
      refine ⟨k, rv, ?_⟩
      cases k with
      | true => rw [if_pos rfl]; exact ⟨ρ1, st1, η, w1, sl.ext e1, q1⟩
      | false => rw [if_neg (by decide)]; exact q1 ρ1 H1 Ext.refl w1 _ rel_bl
    | _ => exact (show False from q1).elim
  have rdT : ∀ σ H Q, STt g W (evA ⟨callN p n, p.gs⟩ (.and a b)).t σ H Q → tAnd (STt g W (evA ⟨callN p n, p.gs⟩ a).t) (STt g W (evA ⟨callN p n, p.gs⟩ b).t) σ H Q := by
    rintro σ H Q ⟨ρ, st, η, w, sl, q⟩
    refine ⟨ρ, st, η, w, sl, (Post.bind q).imp fun k ρ1 st1 H1 e1 w1 q1 => ?_⟩
    cases k with
    | true => rw [if_pos rfl]; exact ⟨ρ1, st1, η, w1, sl.ext e1, q1⟩
    | false => rw [if_neg (by decide)]; exact q1 ρ1 H1 Ext.refl w1
  have form : ∀ e, (chk p (.and a b) c).v e = true → (∃ x y pos, e = .BoolOp .And [x, y] pos ∧ (chk p a c).v x = true ∧ (chk p b c).v y = true) ∨
      (∃ x y z r pos, e = .BoolOp .And (x :: y :: z :: r) pos ∧ (chk p a c).v x = true ∧ (chk p b c).v (.BoolOp .And (y :: z :: r) pos) = true) := fun e h => by
    simp only [chk, ckV] at h
    split at h
    · simp only [Bool.and_eq_true] at h; exact .inl ⟨_, _, _, rfl, h.1, h.2⟩
    · simp only [Bool.and_eq_true] at h; exact .inr ⟨_, _, _, _, _, rfl, h.1, h.2⟩
    · cases h
  have val : ∀ e, (chk p (.and a b) c).v e = true → PE X e (SE g W (evA ⟨callN p n, p.gs⟩ (.and a b)).v) := fun e h => by
    rcases form e h with ⟨x, y, pos, rfl, h1, h2⟩ | ⟨x, y, z, r, pos, rfl, h1, h2⟩
    · exact PE.imp (pe_and (ha.v x h1) (pe_one (hb.v y h2))) rdV
    · exact PE.imp (pe_and (ha.v x h1) (hb.v _ h2)) rdV
  have tst : ∀ e, (chk p (.and a b) c).v e = true → PW X e (STt g W (evA ⟨callN p n, p.gs⟩ (.and a b)).t) := fun e h => by
    rcases form e h with ⟨x, y, pos, rfl, h1, h2⟩ | ⟨x, y, z, r, pos, rfl, h1, h2⟩
    · exact PW.imp (pw_and (ha.t x h1) (pw_and1 (hb.t y h2))) rdT
    · exact PW.imp (pw_and (ha.t x h1) (hb.w _ _ _ h2)) rdT
  refine ⟨val, fun e h => (tst e h).pt, fun op vs pos h => tst _ h, fun es h => (nomatch (show false = true from h)), fun oe h => ?_, fun tg e h => pi_plain S (val e h), fun es h => (nomatch (show false = true from h))⟩
  cases oe with
  | none => exact (nomatch (show false = true from h))
  | some e => exact po_plain (val e h)
theorem snd_or (S : CxS g p n c W X) {a b : Ex} (ha : Snd g p n c W X a) (hb : Snd g p n c W X b) : Snd g p n c W X (.or a b) := by
  have rdV : ∀ σ H Q, SE g W (evA ⟨callN p n, p.gs⟩ (.or a b)).v σ H Q → tOrV (SE g W (evA ⟨callN p n, p.gs⟩ a).v) (SE g W (evA ⟨callN p n, p.gs⟩ b).v) σ H Q := by
    rintro σ H Q ⟨ρ, st, η, w, sl, q⟩
    refine ⟨ρ, st, η, w, sl, (Post.bind q).imp fun v ρ1 st1 H1 e1 w1 q1 V rv => ?_⟩
    cases v with
    | bl k =>
      simp only [Rel] at rv
      refine ⟨k, rv, ?_⟩
      cases k with
      | false => rw [if_neg (by decide)]; exact ⟨ρ1, st1, η, w1, sl.ext e1, q1⟩
      | true => rw [if_pos rfl]; exact q1 ρ1 H1 Ext.refl w1 _ rel_bl
    | _ => exact (show False from q1).elim
  have rdT : ∀ σ H Q, STt g W (evA ⟨callN p n, p.gs⟩ (.or a b)).t σ H Q → tOr (STt g W (evA ⟨callN p n, p.gs⟩ a).t) (STt g W (evA ⟨callN p n, p.gs⟩ b).t) σ H Q := by
    rintro σ H Q ⟨ρ, st, η, w, sl, q⟩
    refine ⟨ρ, st, η, w, sl, (Post.bind q).imp fun k ρ1 st1 H1 e1 w1 q1 => ?_⟩
    cases k with
    | false => rw [if_neg (by decide)]; exact ⟨ρ1, st1, η, w1, sl.ext e1, q1⟩
    | true => rw [if_pos rfl]; exact q1 ρ1 H1 Ext.refl w1
  have form : ∀ e, (chk p (.or a b) c).v e = true → (∃ x y pos, e = .BoolOp .Or [x, y] pos ∧ (chk p a c).v x = true ∧ (chk p b c).v y = true) ∨
      (∃ x y z r pos, e = .BoolOp .Or (x :: y :: z :: r) pos ∧ (chk p a c).v x = true ∧ (chk p b c).v (.BoolOp .Or (y :: z :: r) pos) = true) := fun e h => by
    simp only [chk, ckV] at h
    split at h
    · simp only [Bool.and_eq_true] at h; exact .inl ⟨_, _, _, rfl, h.1, h.2⟩
    · simp only [Bool.and_eq_true] at h; exact .inr ⟨_, _, _, _, _, rfl, h.1, h.2⟩
    · cases h
  have val : ∀ e, (chk p (.or a b) c).v e = true → PE X e (SE g W (evA ⟨callN p n, p.gs⟩ (.or a b)).v) := fun e h => by
    rcases form e h with ⟨x, y, pos, rfl, h1, h2⟩ | ⟨x, y, z, r, pos, rfl, h1, h2⟩
    · exact PE.imp (pe_or (ha.v x h1) (pe_one (hb.v y h2))) rdV
    · exact PE.imp (pe_or (ha.v x h1) (hb.v _ h2)) rdV
  have tst : ∀ e, (chk p (.or a b) c).v e = true → PW X e (STt g W (evA ⟨callN p n, p.gs⟩ (.or a b)).t) := fun e h => by
    rcases form e h with ⟨x, y, pos, rfl, h1, h2⟩ | ⟨x, y, z, r, pos, rfl, h1, h2⟩
    · exact PW.imp (pw_or (ha.t x h1) (pw_or1 (hb.t y h2))) rdT
    · exact PW.imp (pw_or (ha.t x h1) (hb.w _ _ _ h2)) rdT
  refine ⟨val, fun e h => (tst e h).pt, fun op vs pos h => tst _ h, fun es h => (nomatch (show false = true from h)), fun oe h => ?_, fun tg e h => pi_plain S (val e h), fun es h => (nomatch (show false = true from h))⟩
  cases oe with
  | none => exact (nomatch (show false = true from h))
  | some e => exact po_plain (val e h)
theorem snd_not (S : CxS g p n c W X) {a : Ex} (ha : Snd g p n c W X a) : Snd g p n c W X (.not a) := by
  have form : ∀ e, (chk p (.not a) c).v e = true → ∃ x pos, e = .UnaryOp .Not x pos ∧ (chk p a c).v x = true := fun e h => by
    simp only [chk, ckV] at h
    split at h
    · exact ⟨_, _, rfl, h⟩
    · cases h
  have val : ∀ e, (chk p (.not a) c).v e = true → PE X e (SE g W (evA ⟨callN p n, p.gs⟩ (.not a)).v) := fun e h => by
    obtain ⟨x, pos, rfl, h⟩ := form e h
    refine PE.imp (pe_not (ha.v x h)) (se_un (fun _ _ => rfl) (r := fun V H Q => ∃ k, V = .bl k ∧ Q (.bl (!k)) H) fun ρ st H σ η x V Q w sl rx q => ?_)
    cases x with
    | bl k =>
      simp only [Rel] at rx
      exact ⟨k, rx, q ρ H Ext.refl w _ rel_bl⟩
    | _ => exact (show False from q).elim
  refine ⟨val, fun e h => ?_, fun op vs pos h => (nomatch (show false = true from h)), fun es h => (nomatch (show false = true from h)), fun oe h => ?_, fun tg e h => pi_plain S (val e h), fun es h => (nomatch (show false = true from h))⟩
  · obtain ⟨x, pos, rfl, h⟩ := form e h
    refine PT.imp (pt_not (ha.t x h)) ?_
    rintro σ H Q ⟨ρ, st, η, w, sl, q⟩
    exact ⟨ρ, st, η, w, sl, (Post.bind q).imp fun k ρ1 st1 H1 e1 w1 q1 => q1 ρ1 H1 Ext.refl w1⟩
  · cases oe with
    | none => exact (nomatch (show false = true from h))
    | some e => exact po_plain (val e h)
theorem snd_ite (S : CxS g p n c W X) {t a b : Ex} (ht : Snd g p n c W X t) (ha : Snd g p n c W X a) (hb : Snd g p n c W X b) : Snd g p n c W X (.ite t a b) := by
  have form : ∀ e, (chk p (.ite t a b) c).v e = true → ∃ x y z pos, e = .IfExp x y z pos ∧ (chk p t c).v x = true ∧ (chk p a c).v y = true ∧ (chk p b c).v z = true := fun e h => by
    simp only [chk, ckV] at h
    split at h
    · simp only [Bool.and_eq_true] at h; exact ⟨_, _, _, _, rfl, h.1.1, h.1.2, h.2⟩
    · cases h
  have val : ∀ e, (chk p (.ite t a b) c).v e = true → PE X e (SE g W (evA ⟨callN p n, p.gs⟩ (.ite t a b)).v) := fun e h => by
    obtain ⟨x, y, z, pos, rfl, h1, h2, h3⟩ := form e h
    refine PE.imp (pe_ifExp (ht.t x h1) (ha.v y h2) (hb.v z h3)) ?_
    rintro σ H Q ⟨ρ, st, η, w, sl, q⟩
    refine ⟨ρ, st, η, w, sl, (Post.bind q).imp fun k ρ1 st1 H1 e1 w1 q1 => ?_⟩
    cases k with
    | true => rw [if_pos rfl]; exact ⟨ρ1, st1, η, w1, sl.ext e1, q1⟩
    | false => rw [if_neg (by decide)]; exact ⟨ρ1, st1, η, w1, sl.ext e1, q1⟩
  refine ⟨val, fun e h => ⟨fun pins s σ H Q I q => ?_⟩, fun op vs pos h => (nomatch (show false = true from h)), fun es h => (nomatch (show false = true from h)), fun oe h => ?_, fun tg e h => pi_plain S (val e h), fun es h => (nomatch (show false = true from h))⟩
  · obtain ⟨_, _, _, _, _, q⟩ := q; exact (show False from q).elim
  · cases oe with
    | none => exact (nomatch (show false = true from h))
    | some e => exact po_plain (val e h)
end
end Mi
namespace Mi
open PySem L2

section
variable {g : Gd} {p : Prg} {n : Nat} {c : CC} {W : WX} {X : Cx}
/-! dict displays -/
theorem merge_sd {ρ : List Addr} {H : Hp} : ∀ {ks : List Txt} {xs : List Val} {ms : List (Key × V)} {ks0 : List Txt} {xs0 : List Val} {kvs0 : List (Key × V)}, ms.map (·.1) = ks.map tk → Rels g ρ H xs (ms.map (·.2)) → KsOk ks → kvs0.map (·.1) = ks0.map tk → Rels g ρ H xs0 (kvs0.map (·.2)) → KsOk ks0 →
    ((mergeK kvs0 ms).map (·.1) = (putAll ks xs (ks0, xs0)).1.map tk ∧ KsOk (putAll ks xs (ks0, xs0)).1) ∧ Rels g ρ H (putAll ks xs (ks0, xs0)).2 ((mergeK kvs0 ms).map (·.2)) ∧ (putAll ks xs (ks0, xs0)).2.length ≤ xs0.length + ks.length
  | [], xs, ms, ks0, xs0, kvs0, e, r, hk, e0, r0, hk0 => by
    cases ms with
    | cons _ _ => cases e
    | nil => exact ⟨⟨e0, hk0⟩, r0, by simp [putAll]⟩
  | k :: ks, xs, ms, ks0, xs0, kvs0, e, r, hk, e0, r0, hk0 => by
    cases ms with
    | nil => cases e
    | cons m ms =>
      simp only [List.map_cons, List.cons.injEq] at e
      cases xs with
      | nil => simp only [Rels, List.map_cons] at r; cases r
      | cons x xs =>
        obtain ⟨v, u, e2, r1, r2⟩ := r.cons_inv
        simp only [List.map_cons, List.cons.injEq] at e2
        have pk := put_sd (k := k) r1 e0 r0
        have ih := merge_sd (ks := ks) (xs := xs) (ms := ms) (ks0 := (putD k x ks0 xs0).1) (xs0 := (putD k x ks0 xs0).2) (kvs0 := putK kvs0 (tk k) v) e.2 (by rw [e2.2]; exact r2) (fun z hz => hk z (List.mem_cons_of_mem _ hz)) pk.1 pk.2 (putD_ks hk0 (hk k List.mem_cons_self))
        have em : mergeK kvs0 (m :: ms) = mergeK (putK kvs0 (tk k) v) ms := by
          show mergeK (putK kvs0 m.1 m.2) ms = _
          rw [e.1, e2.1]
        rw [em, putAll]
        refine ⟨ih.1, ih.2.1, Nat.le_trans ih.2.2 ?_⟩
        have := putD_len k x ks0 xs0
        rw [List.length_cons]; omega
/-- the pairs of a display from the flat list of its parts -/
theorem pairs_of : ∀ {ks : List (Option Expr)} {vs : List Expr} {es : List Expr} {fs : List (Env → Store → Res Val)} {pos : Pos}, pairL ks vs = some es → PEs g W X es fs →
    ∃ trs, PPs X pos ks vs trs ∧ ks.all (·.isSome) = true ∧ ks.length = vs.length ∧ ∀ (ρ : List Addr) (st : Store) (H : Hp) (η : Env) (σ : St) (Q : List (V × V) → Hp → Prop) (C : List Val → List Addr → Store → Hp → Prop), Wd g ρ st H → Slots g ρ H η σ →
      Post g (fun c d H' => W c d σ H') ρ H (seqR fs η st) C → (∀ xs ρ' st' H' ps, Ext ρ H ρ' H' → Wd g ρ' st' H' → C xs ρ' st' H' → Rels g ρ' H' xs (ps.flatMap fun q => [q.1, q.2]) → Q ps H') → tPairs trs σ H Q
  | [], [], es, fs, pos, h, t => by
    simp only [pairL, Option.some.injEq] at h
    subst h
    cases t
    refine ⟨[], pps_nil, rfl, rfl, fun ρ st H η σ Q C w sl q k => ?_⟩
    exact k [] ρ st H [] Ext.refl w (q ρ H Ext.refl w) (by simp [Rels])
  | some k :: ks, v :: vs, es, fs, pos, h, t => by
    simp only [pairL] at h
    cases hp : pairL ks vs with
    | none => rw [hp] at h; cases h
    | some es' =>
      rw [hp] at h
      simp only [Option.map_some, Option.some.injEq] at h
      subst h
      cases t with
      | @cons _ f1 _ fs1 h1 t1 =>
        cases t1 with
        | @cons _ f2 _ fs2 h2 t2 =>
          obtain ⟨trs, a1, a2, a3, a4⟩ := pairs_of (pos := pos) hp t2
          refine ⟨_, pps_cons h1 h2 a1, by simp [a2], by simp [a3], fun ρ st H η σ Q C w sl q k => ?_⟩
          simp only [seqR] at q
          refine ⟨ρ, st, η, w, sl, (Post.bind q).imp fun x ρ1 st1 H1 e1 w1 q1 V1 r1 => ?_⟩
          refine ⟨ρ1, st1, η, w1, sl.ext e1, (Post.bind (Post.bind q1)).imp fun y ρ2 st2 H2 e2 w2 q2 V2 r2 => ?_⟩
          refine a4 ρ2 st2 H2 η σ _ _ w2 ((sl.ext e1).ext e2) (Post.bind q2) fun xs ρ3 st3 H3 ps e3 w3 q3 r3 => ?_
          refine k (x :: y :: xs) ρ3 st3 H3 ((V1, V2) :: ps) ((e1.trans e2).trans e3) w3 (q3 ρ3 H3 Ext.refl w3 ρ3 H3 Ext.refl w3) ?_
          exact .cons ((r1.ext e2).ext e3) (.cons (r2.ext e3) r3)
  | [], _ :: _, _, _, _, h, _ => by cases h
  | some _ :: _, [], _, _, _, h, _ => by cases h
  | none :: _, _, _, _, _, h, _ => by cases h
theorem pairUp_sd {ρ : List Addr} {H : Hp} : ∀ {xs : List Val} {m : List Txt × List Val} {ps : List (V × V)}, pairUp xs = some m → Rels g ρ H xs (ps.flatMap fun q => [q.1, q.2]) →
    ∃ kvs : List (Key × V), ps = kvs.map (fun kv => (kV kv.1, kv.2)) ∧ kvs.map (·.1) = m.1.map tk ∧ Rels g ρ H m.2 (kvs.map (·.2)) ∧ KsOk m.1 ∧ kvs.length = m.1.length
  | [], m, ps, h, r => by
    simp only [pairUp, Option.some.injEq] at h
    subst h
    cases ps with
    | nil => exact ⟨[], rfl, rfl, .nil, fun _ z => (List.not_mem_nil z).elim, rfl⟩
    | cons q ps => simp [Rels] at r
  | [_], m, ps, h, r => by simp [pairUp] at h
  | k :: v :: xs, m, ps, h, r => by
    simp only [pairUp] at h
    cases hk : keyOf k with
    | none => rw [hk] at h; cases h
    | some kk =>
      cases hm : pairUp xs with
      | none => rw [hk, hm] at h; cases h
      | some m' =>
        rw [hk, hm] at h
        simp only [Option.bind_some, Option.map_some, Option.some.injEq] at h
        subst h
        cases ps with
        | nil => simp [Rels] at r
        | cons q ps =>
          have r : Rels g ρ H (k :: v :: xs) (q.1 :: q.2 :: ps.flatMap fun q => [q.1, q.2]) := r
          obtain ⟨_, _, e1, r1, r'⟩ := r.cons_inv
          cases e1
          obtain ⟨_, _, e2, r2, r3⟩ := r'.cons_inv
          cases e2
          obtain ⟨kvs, b1, b2, b3, b4, b5⟩ := pairUp_sd hm r3
          obtain ⟨ek, lk⟩ := key_sd r1 hk
          refine ⟨(tk kk, q.2) :: kvs, ?_, ?_, .cons r2 b3, ?_, by simp [b5]⟩
          · rw [List.map_cons, ← b1]
            show q :: ps = (kV (tk kk), q.2) :: ps
            rw [← ek]
          · rw [List.map_cons, List.map_cons, b2]
          · intro z hz
            rcases List.mem_cons.mp hz with rfl | hz
            · exact lk
            · exact b4 z hz
theorem Post.bind0 {α β : Type} {E : Value → Option Addr → Hp → Prop} {ρ : List Addr} {H : Hp} {r : Res α} {f : α → Store → Res β} {Q : β → List Addr → Store → Hp → Prop} (h : Post g E ρ H (r.bind f) Q) : Post g E ρ H r (fun v _ st' _ => Post g E ρ H (f v st') Q) := by
  cases r with
  | ok v st' => exact fun _ _ _ _ => h
  | ex x st' => exact h
  | no => exact h
/-- beside something new that is laid meanwhile -/
theorem Ext.beside {ρ ρ1 : List Addr} {H H1 : Hp} {a : Addr} {o u : HO} (ha : H a = none) (e : Ext ρ (upd H a o) ρ1 H1) : Ext ρ H ρ1 (upd H1 a u) ∧ Ext ρ H ρ1 H1 := by
  have e0 : Ext ρ H ρ1 H1 := (Ext.new ha).trans e
  refine ⟨⟨e0.pre, fun b xs q => ?_, fun b o u q => ?_, fun b o q tb nb => ?_⟩, e0⟩
  · rw [upd_ne (ne_of_none q ha)]; exact e0.tup b xs q
  · rw [upd_ne (ne_of_none q ha)]; exact e0.frz b o u q
  · rw [upd_ne (ne_of_none q ha)]; exact e0.keep b o q tb nb
/-- what is related stays so where something is written that is no part of it -/
theorem Wd.beside {ρ : List Addr} {st : Store} {H : Hp} {a : Addr} {u : HO} (w : Wd g ρ st H) (na : a ∉ ρ) (h1 : ∀ xs, H a ≠ some (.tup xs)) (h2 : ∀ o u, H a ≠ some (.frz o u)) (h3 : ∀ ps, H a ≠ some (.tbl ps)) (h4 : ∀ φ, H a ≠ some (.ext φ)) : Wd g ρ st (upd H a u) ∧ Ext0 ρ H ρ (upd H a u) := by
  have e : Ext0 ρ H ρ (upd H a u) := ⟨⟨[], by simp⟩, fun b xs q => by rw [upd_ne (fun z => h1 xs (by rw [← z]; exact q))]; exact q, fun b o u q => by rw [upd_ne (fun z => h2 o u (by rw [← z]; exact q))]; exact q⟩
  refine ⟨⟨w.len, w.nd, fun m ob b h3 h4 => (w.ob m ob b h3 h4).ext0 e ?_, fun q hq => ?_⟩, e⟩
  · rw [upd_ne (fun z => na (by rw [← z]; exact List.mem_of_getElem? h4))]
  · obtain ⟨k0, ps, k1, k2, k3⟩ := w.tb q hq
    refine ⟨k0, ps, by rw [upd_ne (fun z => h3 ps (by rw [← z]; exact k1))]; exact k1, k2, fun pos cv hc => ?_⟩
    obtain ⟨c, e1, e2, e3⟩ := k3 pos cv hc
    refine ⟨c, e1, e2, ?_⟩
    rw [upd_ne (fun z => h4 _ (by rw [← z]; exact e3))]; exact e3
/-- a display's reading, its end open -/
theorem disp_rd (S : CxS g p n c W X) {as : Ex} (hs : Snd g p n c W X as) {ks : List (Option Expr)} {vs : List Expr} {es : List Expr} {pos : Pos} (hp : pairL ks vs = some es) (he : (chk p as c).s es = true) (h15 : ks.length ≤ 15) {G : List Txt × List Val → Store → Res Val}
    (hT : ∀ (ρ0 : List Addr) (H0 : Hp) (ρ : List Addr) (st : Store) (H : Hp) (σ : St) (Q : VK) (a : Addr) (m : List Txt × List Val) (kvs : List (Key × V)), H0 a = none → Ext ρ0 (upd H0 a (.dK [])) ρ H → Wd g ρ st H → H a = some (.dK []) → a ∉ ρ → (kvs.map (·.1) = m.1.map tk ∧ KsOk m.1) → Rels g ρ H m.2 (kvs.map (·.2)) → m.2.length ≤ sizeLine →
      Post g (fun c d H' => W c d σ H') ρ0 H0 (G m st) (fun v ρ' _ H' => ∀ V, Rel g ρ' H' v V → Q V H') → Sh Q (.ref a) (upd H a (.dK kvs))) :
    PE X (.Dict ks vs pos) (SE g W fun η st => ((evA ⟨callN p n, p.gs⟩ as).s η st).bind fun xs st => match pairUp xs with
      | some q => if q.1.length ≤ 15 then G (putAll q.1 q.2 ([], [])) st else .no
      | none => .no) := by
  obtain ⟨fs, t, ef⟩ := hs.l es he
  obtain ⟨trs, a1, a2, a3, a4⟩ := pairs_of (pos := pos) hp t
  by_cases h0 : ks = []
  · subst h0
    cases vs with
    | cons _ _ => cases hp
    | nil =>
      simp only [pairL, Option.some.injEq] at hp
      subst hp
      cases t
      refine PE.imp (PE.sh pe_dnewK) ?_
      rintro σ H Q ⟨ρ, st, η, w, sl, q⟩ a ha
      rw [ef] at q
      have q2 : Post g (fun c d H' => W c d σ H') ρ H (if 0 ≤ 15 then G ([], []) st else .no) (fun v ρ' _ H' => ∀ V, Rel g ρ' H' v V → Q V H') := q
      have := hT ρ H ρ st (upd H a (.dK [])) σ Q a ([], []) [] ha Ext.refl (w.new ha) upd_same (w.fresh ha) ⟨rfl, fun _ z => (List.not_mem_nil z).elim⟩ .nil (Nat.zero_le _) (if_ok q2).2
      rwa [upd_upd] at this
  · refine PE.imp (PE.sh (pe_disp a1 a2 a3 h0 h15)) ?_
    rintro σ H0 Q ⟨ρ, st, η, w, sl, q⟩ a ha
    rw [ef] at q
    refine a4 ρ st (upd H0 a (.dK [])) η σ _ _ (w.new ha) (sl.ext (Ext.new ha)) ((Post.bind0 q).mono (Ext.new ha)) fun xs ρ1 st1 H1 ps e1 w1 q1 r1 => ?_
    obtain ⟨ha1, na1⟩ := e1.keep a _ upd_same (fun _ z => by cases z) (w.fresh ha)
    cases hm : pairUp xs with
    | none => rw [hm] at q1; exact (show False from q1).elim
    | some m =>
      rw [hm] at q1
      obtain ⟨l15, q1⟩ := if_ok q1
      obtain ⟨kvs, b1, b2, b3, b4, b5⟩ := pairUp_sd hm r1
      obtain ⟨m1, m2, m3⟩ := merge_sd (ks0 := []) (xs0 := []) (kvs0 := []) b2 b3 b4 rfl .nil (fun _ z => (List.not_mem_nil z).elim)
      refine ⟨ha1, kvs, b1, by rw [b5]; exact l15, hT ρ H0 ρ1 st1 H1 σ Q a _ _ ha e1 w1 ha1 na1 m1 m2 ?_ q1⟩
      refine Nat.le_trans m3 ?_
      have : (15 : Nat) ≤ sizeLine := by decide
      show 0 + m.1.length ≤ _
      omega
theorem snd_dsp (S : CxS g p n c W X) {as : Ex} (hs : Snd g p n c W X as) : Snd g p n c W X (.dsp as) := by
  refine snd_plain S rfl rfl (fun e h => ?_) (fun e h => ?_)
  · cases e <;> first | rfl | exact (nomatch (show false = true from h))
  · cases e with
    | Dict ks vs pos =>
      dsimp only at h
      split at h
      · rename_i es hp
        simp only [Bool.and_eq_true, decide_eq_true_eq] at h
        refine disp_rd S hs hp h.1 h.2 (G := fun m st => .ok (.dct m.1 m.2) st) fun ρ0 H0 ρ st H σ Q a m kvs ha0 e0 w ha na hk r hl q => ?_
        refine .inr ⟨a, .dK kvs, upd_same, trivial, fun od => ?_⟩
        rw [upd_upd]
        obtain ⟨w2, e2⟩ := Wd.beside (u := .frz od (.dK kvs)) w na (fun _ z => by rw [ha] at z; cases z) (fun _ _ z => by rw [ha] at z; cases z) (fun _ z => by rw [ha] at z; cases z) (fun _ z => by rw [ha] at z; cases z)
        refine q ρ _ (Ext.beside ha0 e0).1 w2 _ ?_
        simp only [Rel]
        exact ⟨a, kvs, rfl, ⟨od, upd_same⟩, hl, hk, r.ext0 e2⟩
      · cases h
    | _ => exact (nomatch (show false = true from h))
theorem snd_dnew (S : CxS g p n c W X) {as : Ex} (hs : Snd g p n c W X as) : Snd g p n c W X (.dnew as) := by
  refine snd_plain S rfl rfl (fun e h => ?_) (fun e h => ?_)
  · cases e <;> first | rfl | exact (nomatch (show false = true from h))
  · cases e with
    | Dict ks vs pos =>
      dsimp only at h
      split at h
      · rename_i es hp
        simp only [Bool.and_eq_true, decide_eq_true_eq] at h
        refine disp_rd S hs hp h.1 h.2 (G := fun m st => .ok (.loc st.length) (st ++ [.dct m.1 m.2])) fun ρ0 H0 ρ st H σ Q a m kvs ha0 e0 w ha na hk r hl q => ?_
        obtain ⟨w2, e2⟩ := Wd.beside (u := .dK kvs) w na (fun _ z => by rw [ha] at z; cases z) (fun _ _ z => by rw [ha] at z; cases z) (fun _ z => by rw [ha] at z; cases z) (fun _ z => by rw [ha] at z; cases z)
        have e3 := (Ext.beside (u := .dK kvs) ha0 e0).1
        have e4 : Ext ρ0 H0 (ρ ++ [a]) (upd H a (.dK kvs)) := by
          refine ⟨by obtain ⟨m', hm⟩ := e3.pre; exact ⟨m' ++ [a], by rw [hm, List.append_assoc]⟩, e3.tup, e3.frz, fun b o hb tb nb => ⟨(e3.keep b o hb tb nb).1, ?_⟩⟩
          simp only [List.mem_append, List.mem_singleton, not_or]
          exact ⟨(e3.keep b o hb tb nb).2, ne_of_none hb ha0⟩
        have e5 : Ext0 ρ (upd H a (.dK kvs)) (ρ ++ [a]) (upd H a (.dK kvs)) := ⟨⟨[a], rfl⟩, fun _ _ q => q, fun _ _ _ q => q⟩
        refine .inl (q (ρ ++ [a]) _ e4 ⟨by simp [w.len], ?_, fun k ob b h1 h2 => ?_, fun q hq => ?_⟩ _ ?_)
        · rw [List.nodup_append]
          refine ⟨w.nd, by simp, fun x hx y hy z => ?_⟩
          have : y = a := by simpa using hy
          subst this; subst z
          exact na hx
        · by_cases hk2 : k < st.length
          · rw [List.getElem?_append_left hk2] at h1
            rw [List.getElem?_append_left (by rw [w.len]; exact hk2)] at h2
            exact (w2.ob k ob b h1 h2).ext0 e5 rfl
          · have hk3 : k = st.length := by
              have := (List.getElem?_eq_some_iff.mp h1).1
              simp at this; omega
            subst hk3
            rw [List.getElem?_append_right (Nat.le_refl _)] at h1
            rw [List.getElem?_append_right (by rw [w.len]; exact Nat.le_refl _), w.len] at h2
            simp at h1 h2
            subst h1; subst h2
            exact ⟨kvs, upd_same, hl, hk, (r.ext0 e2).ext0 e5⟩
        · obtain ⟨k0, ps, k1, k2, k3⟩ := w2.tb q hq
          have nA : ∀ {b : Addr} {o : HO}, upd H a (.dK kvs) b = some o → o ≠ .dK kvs → b ≠ a := fun {b o} e n z => by
            rw [z, upd_same] at e
            exact n (Option.some.inj e).symm
          have mem : ∀ {b : Addr}, b ∉ ρ → b ≠ a → b ∉ ρ ++ [a] := fun {b} h1 h2 => by
            simp only [List.mem_append, List.mem_singleton, not_or]; exact ⟨h1, h2⟩
          refine ⟨mem k0 (nA k1 (fun z => by cases z)), ps, k1, k2, fun pos cv hc => ?_⟩
          obtain ⟨c, e1, e2, e3⟩ := k3 pos cv hc
          exact ⟨c, e1, mem e2 (nA e3 (fun z => by unfold LamX.CodeO at z; cases z)), e3⟩
        · simp only [Rel]
          exact ⟨a, rfl, by rw [← w.len]; simp⟩
      · cases h
    | _ => exact (nomatch (show false = true from h))
end
end Mi
namespace Mi
open PySem L2

section
variable {g : Gd} {p : Prg} {n : Nat} {c : CC} {W : WX} {X : Cx}
theorem fo_b (f : FO) (h1 : f ≠ .ssort) (h2 : f ≠ .lset) : foN f ∈ bnames ∧ ((∃ id, foV f = .builtin id ∧ bootBuiltins (foN f : Str) = some (.builtin id)) ∨ (∃ T, foV f = .type T ∧ bootBuiltins (foN f : Str) = some (.type T))) ∧ ((foN f : Str) ≠ ("__name__" : Str) ∧ ((foN f : Str) == ("__debug__" : Str)) = false) := by
  cases f <;> first | exact absurd rfl h1 | exact absurd rfl h2 | exact ⟨by decide, .inl ⟨_, rfl, by decide +kernel⟩, by decide +kernel, by decide +kernel⟩ | exact ⟨by decide, .inr ⟨_, rfl, by decide +kernel⟩, by decide +kernel, by decide +kernel⟩
theorem snd_fn (S : CxS g p n c W X) {as : Ex} (f : FO) (h1 : f ≠ .ssort) (hs : Snd g p n c W X as) : Snd g p n c W X (.fn f as) := by
  by_cases h2 : f = .lset
  · subst h2
    exact snd_ck0 rfl
  obtain ⟨b1, b2, b3, b4⟩ := fo_b f h1 h2
  refine snd_plain (F := fun η st => ((evA ⟨callN p n, p.gs⟩ as).s η st).bind fun vs st => opt (fnV st f vs) st) (ck := fun e => match e with
    | .Call (.Name x _) (y :: ys) [] _ => bltB c x (foN f) && (chk p as c).s (y :: ys)
    | _ => false) S (by cases f <;> first | rfl | exact absurd rfl h1 | exact absurd rfl h2) rfl (fun e h => ?_) (fun e h => ?_)
  · split at h
    · rfl
    · cases h
  · split at h
    · rename_i x px y ys pos
      simp only [Bool.and_eq_true] at h
      obtain ⟨gx, mx, rfl⟩ := blt_of S h.1 b1
      obtain ⟨st, pa⟩ := hs.s _ h.2
      have rd := se_args (g := g) (W := W) (F := fun η st => ((evA ⟨callN p n, p.gs⟩ as).s η st).bind fun vs st => opt (fnV st f vs) st) (fun _ _ => rfl) (r := fun σ vs H Q => RCv g (fun st => fnV st f) vs H Q) fun ρ st H σ xs vs Q w r q => rcv_of w r q
      have op := opF (X := X) S.K S.calm S.units f h1
      rcases b2 with ⟨id, e1, e2⟩ | ⟨T, e1, e2⟩
      · rw [e1] at op
        exact PE.imp (pe_callB op gx mx e2 pa b3 b4 (star_cons (st _ List.mem_cons_self)) (star_any fun z hz => st z (List.mem_cons_of_mem _ hz))) rd
      · rw [e1] at op
        exact PE.imp (pe_callTy op gx mx e2 pa b3 b4 (star_cons (st _ List.mem_cons_self)) (star_any fun z hz => st z (List.mem_cons_of_mem _ hz))) rd
    · cases h
theorem snd_ssort (S : CxS g p n c W X) {as : Ex} (hs : Snd g p n c W X as) : Snd g p n c W X (.fn .ssort as) := by
  refine snd_plain S rfl rfl (fun e h => ?_) (fun e h => ?_)
  · split at h
    · rfl
    · cases h
  · split at h
    · rename_i f pf gg pg x p2 pos
      simp only [Bool.and_eq_true] at h
      obtain ⟨⟨h1, h2⟩, h3⟩ := h
      obtain ⟨gf, mf, rfl⟩ := blt_of S h1 (by decide)
      obtain ⟨gs, ms, rfl⟩ := blt_of S h2 (by decide)
      obtain ⟨st, pa⟩ := hs.s _ h3
      have inner := pe_callTy (call_setT S.calm) gs ms (by decide +kernel) pa (by decide +kernel) (by decide +kernel) (star_cons (st _ List.mem_cons_self)) (by rfl) (pos := p2) (p := pg)
      have outer := pe_callB (call_sortedT S.calm) gf mf (by decide +kernel) (pa_cons inner pa_nil (by rfl)) (by decide +kernel) (by decide +kernel) (by rfl) (by rfl) (pos := pos) (p := pf)
      refine PE.imp (PE.sh outer) ?_
      rintro σ H Q ⟨ρ, st1, η, w, sl, q⟩
      refine ⟨ρ, st1, η, w, sl, (Post.bind q).imp fun xs ρ1 st2 H1 e1 w1 q1 Vs rs => ?_⟩
      obtain ⟨z, hz, q2⟩ := Post.opt q1
      simp only [fnV] at hz
      split at hz
      · rename_i v
        obtain ⟨V, rfl, rv⟩ := one_sd rs
        cases ha : asL st2 v with
        | none => rw [ha] at hz; cases hz
        | some ys =>
          rw [ha] at hz
          simp only [Option.bind_some] at hz
          cases hb : strsV ys with
          | none => rw [hb] at hz; cases hz
          | some ts =>
            rw [hb] at hz
            simp only [Option.bind_some] at hz
            split at hz
            · rename_i h64
              cases hz
              obtain ⟨a, vs, rfl, k1, k2, k3⟩ := asL_sd w1 rv ha
              have ev := strs_sd k3 hb
              refine ⟨a, ts, rfl, by rw [S.K]; rw [ev] at k1; exact k1, Nat.lt_of_le_of_lt (Nat.succ_le_of_lt h64) (by decide), fun b hb1 => ?_⟩
              refine ⟨b, addAll ts [], rfl, upd_same, Nat.lt_of_le_of_lt (addAll_len ts []) (by simpa using h64), fun l hl => ?_⟩
              rw [sort_addAll]
              have e2 : Ext ρ1 H1 ρ1 (upd H1 b (SetX X.w b (addAll ts []))) := Ext.new hb1
              have rr : Rels g ρ1 (upd H1 b (SetX X.w b (addAll ts []))) ((sortU ts).map .str) ((sortU ts).map (V.str ∘ tx)) := strs_rel fun t ht => (strs_len k3 hb) t ((sortU_mem ts t).mp ht)
              exact shL (w1.new hb1) rr (by rw [List.length_map]; exact Nat.le_trans (sortU_len ts) (Nat.le_of_lt (Nat.lt_of_lt_of_le h64 (by decide)))) (fun ρ' H' e3 w3 => q2 ρ' H' (e2.trans e3) w3) hl
            · cases hz
      · cases hz
    · cases h
theorem snd_lnew (S : CxS g p n c W X) {a : Ex} (ha : Snd g p n c W X a) : Snd g p n c W X (.lnew a) := by
  refine snd_plain S rfl rfl (fun e h => ?_) (fun e h => ?_)
  · split at h
    · rfl
    · cases h
  · split at h
    · rename_i x px y pos
      simp only [Bool.and_eq_true] at h
      obtain ⟨gx, mx, rfl⟩ := blt_of S h.1.1 (by decide)
      have op : CallR X (.type "list") (fun vs H Q => ∃ ρ st v V xs, Wd g ρ st H ∧ vs = [V] ∧ Rel g ρ H v V ∧ listV st v = some xs ∧ ∀ l us, xs.length ≤ sizeLine → Rels g ρ H xs us → H l = none → Q (.ref l) (upd H l (.lst us))) := by
        intro pins s σ H vs us Q I r q
        obtain ⟨ρ, st, v, V, xs, w, rfl, rv, hx, q⟩ := q
        exact list_of S.K S.calm w rv hx I r q
      refine PE.imp (pe_callTy op gx mx (by decide +kernel) (pa_cons (ha.v y h.2) pa_nil (star_cons h.1.2)) (by decide +kernel) (by decide +kernel) (star_cons h.1.2) (by rfl)) ?_
      rintro σ H Q ⟨ρ, st1, η, w, sl, q⟩
      refine ⟨ρ, st1, η, w, sl, (Post.bind q).imp fun v ρ1 st2 H1 e1 w1 q1 V rv => ?_⟩
      cases hx : listV st2 v with
      | none => rw [hx] at q1; exact (show False from q1).elim
      | some xs =>
        rw [hx] at q1
        refine ⟨ρ1, st2, v, V, xs, w1, rfl, rv, hx, fun l us hl r hp => q1 (ρ1 ++ [l]) _ (Ext.alloc hp) (w1.alloc hp ⟨us, upd_same, hl, r.ext (Ext.alloc hp)⟩) _ ?_⟩
        simp only [Rel]
        exact ⟨l, rfl, by rw [← w1.len]; simp⟩
    · cases h
theorem snd_dcpy (S : CxS g p n c W X) {a : Ex} (ha : Snd g p n c W X a) : Snd g p n c W X (.dcpy a) := by
  refine snd_plain S rfl rfl (fun e h => ?_) (fun e h => ?_)
  · split at h
    · rfl
    · cases h
  · split at h
    · rename_i x px y pos
      simp only [Bool.and_eq_true] at h
      obtain ⟨gx, mx, rfl⟩ := blt_of S h.1.1 (by decide)
      refine PE.imp (pe_callTy call_dictD gx mx (by decide +kernel) (pa_cons (ha.v y h.2) pa_nil (star_cons h.1.2)) (by decide +kernel) (by decide +kernel) (star_cons h.1.2) (by rfl)) ?_
      rintro σ H Q ⟨ρ, st1, η, w, sl, q⟩
      refine ⟨ρ, st1, η, w, sl, (Post.bind q).imp fun v ρ1 st2 H1 e1 w1 q1 V rv => ?_⟩
      cases hx : dictV st2 v with
      | none => rw [hx] at q1; exact (show False from q1).elim
      | some xs =>
        rw [hx] at q1
        obtain ⟨b, kvs, rfl, h1, h2, h3, h4⟩ := asD_sd w1 rv hx
        refine ⟨b, kvs, rfl, h1, fun l hp => q1 (ρ1 ++ [l]) _ (Ext.alloc hp) (w1.alloc hp ⟨kvs, upd_same, h2, h3, h4.ext (Ext.alloc hp)⟩) _ ?_⟩
        simp only [Rel]
        exact ⟨l, rfl, by rw [← w1.len]; simp⟩
    · cases h
theorem base_of {o : Expr} {nm : Str} {env : PySem.Env} (h : noCall o = true) : attributeBase o nm env (eval o env) = eval o env := by
  cases o with
  | Call f as ks pos =>
    cases as with
    | nil => cases h
    | cons a as => cases f <;> rfl
  | _ => rfl
theorem snd_mt (S : CxS g p n c W X) {o as : Ex} (m : MO) (ho : Snd g p n c W X o) (hs : Snd g p n c W X as) : Snd g p n c W X (.mt m o as) := by
  refine snd_plain S rfl rfl (fun e h => ?_) (fun e h => ?_)
  · split at h
    · rfl
    · cases h
  · split at h
    · rename_i x nm ap ys cp
      simp only [Bool.and_eq_true, decide_eq_true_eq, Bool.not_eq_true', decide_eq_false_iff_not] at h
      obtain ⟨⟨⟨⟨⟨⟨⟨h1, h2⟩, h3⟩, h4⟩, h5⟩, h6⟩, h7⟩, h8⟩ := h
      subst h1
      obtain ⟨st, pa⟩ := hs.s _ h7
      have hm : m ≠ .items ∧ m ≠ .index := ⟨h4, h5⟩
      have rd : ∀ σ H Q, SE g W (evA ⟨callN p n, p.gs⟩ (.mt m o as)).v σ H Q → SE g W (evA ⟨callN p n, p.gs⟩ o).v σ H fun V H1 => tyV X.K (moT m) V H1 ∧ SA g W (evA ⟨callN p n, p.gs⟩ as).s σ H1 fun Vs H2 => RM g m V Vs H2 Q := by
        rintro σ H Q ⟨ρ, st1, η, w, sl, q⟩
        refine ⟨ρ, st1, η, w, sl, (Post.bind q).imp fun v ρ1 st2 H1 e1 w1 q1 V rv => ?_⟩
        obtain ⟨k1, q1⟩ := if_ok q1
        refine ⟨mtOk_ty S.K w1 rv k1 hm, ρ1, st2, η, w1, sl.ext e1, (Post.bind q1).imp fun vs ρ2 st3 H2 e2 w2 q2 Vs rvs => ?_⟩
        cases hr : mtV m v vs st3 with
        | none => rw [hr] at q2; exact (show False from q2).elim
        | some r =>
          rw [hr] at q2
          obtain ⟨z, st4⟩ := r
          exact ⟨ρ2, st3, v, vs, z, st4, w2, rv.ext e2, rvs, hr, q2⟩
      cases ys with
      | nil =>
        refine PE.imp (pe_bm0 (mo_plain m) (mo_slot m hm) (mo_type m hm) (mt_all S.K m) (ho.v x h6) (base_of h2) h3) fun σ H Q q => ?_
        have q2 := rd σ H Q q
        obtain ⟨ρ, st1, η, w, sl, q2⟩ := q2
        refine ⟨ρ, st1, η, w, sl, q2.imp fun v ρ1 st2 H1 e1 w1 q3 V rv => ?_⟩
        obtain ⟨k1, k2⟩ := q3 V rv
        refine ⟨k1, ?_⟩
        obtain ⟨fs, t, ef⟩ := hs.l _ h7
        cases t
        rw [ef] at k2
        obtain ⟨ρ4, st4, η4, w4, sl4, k3⟩ := k2
        exact k3 ρ4 H1 Ext.refl w4 [] .nil
      | cons y ys =>
        refine PE.imp (pe_bm (mo_plain m) (mo_slot m hm) (mo_type m hm) (mt_all S.K m) (ho.v x h6) pa (base_of h2) ?_ h3 (star_cons (st _ List.mem_cons_self)) (star_any fun z hz => st z (List.mem_cons_of_mem _ hz))) rd
        rw [star_all st]
        simp only [keywordEach, backToKw, List.map_nil, List.all_nil, Bool.and_true, Bool.true_and, decide_eq_true_eq, List.isEmpty_nil, if_true, List.length_nil]
        simp only [Nat.add_zero]
        omega
    · cases h
theorem snd_isi (S : CxS g p n c W X) {a : Ex} (t : TyN) (ha : Snd g p n c W X a) : Snd g p n c W X (.isi t a) := by
  refine snd_plain S rfl rfl (fun e h => ?_) (fun e h => ?_)
  · split at h
    · rfl
    · cases h
  · split at h
    · rename_i x px y z pz pos
      simp only [Bool.and_eq_true] at h
      obtain ⟨⟨⟨h1, h2⟩, h3⟩, h4⟩ := h
      obtain ⟨gx, mx, rfl⟩ := blt_of S h1 (by decide)
      obtain ⟨gz, mz, rfl⟩ := blt_of S h2 (by cases t <;> decide)
      have ty : PE X (.Name (tyS t : Str) pz) (tC (.ty (tyS t))) := by
        refine pe_bltn gz mz (u := .type (tyS t)) ?_ rfl ?_ ?_
        · cases t <;> decide +kernel
        · cases t <;> decide +kernel
        · cases t <;> decide +kernel
      refine PE.imp (pe_callB (isi_all S.K t) gx mx (by decide +kernel) (pa_cons (ha.v y h4) (pa_cons ty pa_nil (by rfl)) (star_cons h3)) (by decide +kernel) (by decide +kernel) (star_cons h3) (by rfl)) ?_
      rintro σ H Q ⟨ρ, st1, η, w, sl, q⟩
      refine ⟨ρ, st1, η, w, sl, (Post.bind q).imp fun v ρ1 st2 H1 e1 w1 q1 V rv => ?_⟩
      obtain ⟨r, hr, q2⟩ := Post.opt q1
      cases hi : isiV t v with
      | none => rw [hi] at hr; cases hr
      | some b =>
        rw [hi] at hr
        cases hr
        exact ⟨ρ1, st2, v, b, V, w1, rv, rfl, hi, q2 ρ1 H1 Ext.refl w1 _ rel_bl⟩
    · cases h
/-- the number of arguments -/
theorem call_len {ρ : List Addr} {H : Hp} {E : Value → Option Addr → Hp → Prop} {f : Nat} {d : Def} {vs : List Val} {st : Store} {Q : Val → List Addr → Store → Hp → Prop} (hd : p.fns[f]? = some d) (q : Post g E ρ H (callN p n f vs st) Q) : vs.length = d.ps.length := by
  cases n with
  | zero => rw [callN_zero] at q; exact (show False from q).elim
  | succ n =>
    simp only [callN_succ, hd] at q
    exact (if_ok q).1
theorem star_form {ys : List Expr} {env : PySem.Env} {pos : Pos} (st : ∀ e ∈ ys, noStar e = true) (hl : ys.length < 29) : methodCallForm (ys.length + ([] : List Keyword).length) (backTo pos (starEach ys env)) (backToKw pos (keywordEach [] env)) = true := by
  unfold methodCallForm
  rw [star_all st]
  simp only [keywordEach, backToKw, List.map_nil, List.all_nil, Bool.and_true, Bool.true_and, decide_eq_true_eq, List.isEmpty_nil, if_true, List.length_nil]
  simp only [Nat.add_zero]
  omega
/-- o.m(..) of one's own -/
theorem eval_meth {M : Model} {A : Around} {E : Value → Shared → Prop} {s : Shared} {o : Expr} {name : Str} {apos pos : Pos} {args : List Expr} {env : PySem.Env} {Q : Value → Shared → Prop} (hbase : attributeBase o name env (eval o env) = eval o env)
    (hform : methodCallForm (args.length + ([] : List Keyword).length) (backTo pos (starEach args env)) (backToKw pos (keywordEach [] env)) = true) (hline : (apos.endLine == pos.line) = true)
    (h : wpAny M A (eval o env) (fun ov s₁ => ∀ pl : Sem Bool, wpAny M A (getMethod ov name pl) (fun fx s₂ => wpAny M A (callWith pos fx.1 fx.2 (backTo pos (starEach args env)) (backToKw pos (keywordEach [] env))) Q E s₂) E s₁) E s) :
    wpAny M A (eval (.Call (.Attribute o name apos) args [] pos) env) Q E s := by
  rw [arm_eval_Call, hbase]
  refine wpAny_bind (wpAny_mono h (fun ov s₁ h₁ => ?_) fun _ _ e => e)
  refine wpAny_bind (wpAny_standAt ?_)
  have hpos : methodCallPos true o env apos pos = pure pos := by unfold methodCallPos; simp [hline]
  unfold methodCall
  rw [hform]
  refine wpAny_bind (wpAny_holding (wpAny_mono (h₁ _) (fun fx s2 h2 => ?_) fun _ _ e => e))
  exact wpAny_bind (wpAny_of_eq hpos h2)
def tMethO (C : Addr) (m : Str) (sp : Sp) (E : St → XK) (ta : TE) (t : TA) : TE := fun σ H Q => ta σ H fun x H1 => ∃ a dx fs, x = .ref a ∧ H1 a = some (.ins C dx fs) ∧ fs.lookup m = none ∧ t σ H1 fun vs H2 => sp (x :: vs) H2 Q (E σ)
theorem pe_methO {CX : CXT} {k : Nat} {f C : Addr} {fd : FuncData} {ps : List Str} {sp : Sp} {E : St → XK} {m : Str} {pos apos : Pos} {o : Expr} {ys : List Expr} {ta : TE} {t : TA} (he : PE X o ta) (c : Cls X.K C) (hm : Meth X.K C m f) (F : FnOk X.prog X.w X.K X.mg X.base CX k f fd ps sp) (hr : Room k X.A) (hb : Binds X.K fd ps [])
    (hx : ∀ σ, PassesAt CX X σ (E σ)) (ha : PA X ys t) (ht : ys = [] → ∀ σ H Q, t σ H Q → Q [] H) (st : ∀ e ∈ ys, noStar e = true) (hl : ys.length < 29) (hbase : attributeBase o m X.env (eval o X.env) = eval o X.env) (hline : (apos.endLine == pos.line) = true) :
    PE X (.Call (.Attribute o m apos) ys [] pos) (tMethO C m sp E ta t) := by
  refine ⟨fun pins s σ H Q I h => ?_⟩
  refine eval_meth hbase (star_form st hl) hline (thn (he.run pins s σ H _ I h) fun u s1 ⟨x, H1, I1, rx, a, dx, fs, ex, ea, l, q⟩ pl => ?_)
  subst ex
  obtain rfl : u = Value.ref a := rx
  refine getmeth_ok I1 ea c hm l ?_
  cases ys with
  | nil => exact PySem.W.callWith_K0 (first := [.ref a]) I1.kIn hm.kp (run_fnS (us := [.ref a]) (vs := [.ref a]) F hr hb (hx σ) I1 (.cons rfl .nil) (ht rfl σ H1 _ q))
  | cons y ys =>
    refine PySem.W.callWith_K (first := [.ref a]) (h₀ := X.base) I.ok.mod.kin hm.kp (thn (ha.run pos pins s1 σ H1 _ I1 q) fun us s2 ⟨vs, H2, I2, r, q2⟩ => ⟨I2.kIn, ?_⟩) (star_cons (st _ List.mem_cons_self)) (star_any fun z hz => st z (List.mem_cons_of_mem _ hz))
    exact run_fnS (us := .ref a :: us) (vs := .ref a :: vs) F hr hb (hx σ) I2 (.cons rfl r) q2
theorem run_makeS {CX : CXT} {k : Nat} {f C : Addr} {fd : FuncData} {ps : List Str} {sp : Sp} {E : St → XK} {pins : List (Addr × Obj)} {σ : St} {H : Hp} {s : Shared} {Q : VK} {us : List Value} {vs : List V} (M : Mk X.K C f) (F : FnOk X.prog X.w X.K X.mg X.base CX k f fd ps sp) (hr : Room (k + 1) X.A) (hb : Binds X.K fd ps [])
    (hx : PassesAt CX X σ (E σ)) (I : Inv X pins σ H s) (r : Vals vs us)
    (h : ∀ x dx, H x = none → H dx = none → dx ≠ x → sp (.ref x :: vs) (upd (upd H dx (.own x)) x (.ins C dx [])) (fun v H2 => v = .non ∧ Q (.ref x) H2) (E σ)) :
    wpAny (model X.prog X.w) X.A (call (.ref C) us) (EP X pins σ Q) X.xe s := by
  have hq := h (s.heap.objs.size + 1) s.heap.objs.size (I.hok.fresh (Nat.le_succ _)) (I.hok.fresh (Nat.le_refl _)) (Nat.ne_of_lt (Nat.lt_succ_self _))
  have I2 := Inv.made (C := C) I
  have r2 : Vals (V.ref (s.heap.objs.size + 1) :: vs) (Value.ref (s.heap.objs.size + 1) :: us) := .cons rfl r
  have hl : (Value.ref (s.heap.objs.size + 1) :: us ++ []).length = ps.length := by
    have e := r2.length
    rw [F.len _ _ _ _ hq] at e
    rw [List.append_nil]
    exact e.symm
  have b := hb _ (Value.ref (s.heap.objs.size + 1) :: us) I2.kIn hl
  rw [List.append_nil] at b
  refine wpAny_call (make_map (f := f) I.kIn M.makes M.init (beq_iff_eq.mp M.fn) (codeAny_mono (F.run _ X.stack _ _ ⟨Value.ref (s.heap.objs.size + 1) :: us, []⟩ (Value.ref (s.heap.objs.size + 1) :: us) _ _ (E σ) (hr.make C us [])
    (I2.env0.make C us []) b r2 hq) fun r s' hq' => ?_))
  cases r with
  | error e => exact hx pins _ _ e s' I2 hq'
  | ok fl =>
    cases fl with
    | ret u =>
      obtain ⟨v, H', I3, rv, ev, q3⟩ := I2.after hq'
      subst ev
      exact ⟨rv, ⟨V.ref (s.heap.objs.size + 1), H', I3, rfl, q3⟩⟩
    | next => exact False.elim hq'
    | brk => exact False.elim hq'
    | cont => exact False.elim hq'
def tMakeO (C : Addr) (sp : Sp) (E : St → XK) (t : TA) : TE := fun σ H Q => t σ H fun vs H1 => ∀ x dx, H1 x = none → H1 dx = none → dx ≠ x → sp (.ref x :: vs) (upd (upd H1 dx (.own x)) x (.ins C dx [])) (fun v H2 => v = .non ∧ Q (.ref x) H2) (E σ)
theorem pe_makeO {CX : CXT} {k : Nat} {f C : Addr} {fd : FuncData} {ps : List Str} {sp : Sp} {E : St → XK} {x : Str} {px pos : Pos} {ys : List Expr} {t : TA} (M : Mk X.K C f) (F : FnOk X.prog X.w X.K X.mg X.base CX k f fd ps sp) (hr : Room (k + 1) X.A) (hg : Gl X x) (hm : X.mg x = some (.ref C)) (hb : Binds X.K fd ps [])
    (hx : ∀ σ, PassesAt CX X σ (E σ)) (ha : PA X ys t) (ht : ys = [] → ∀ σ H Q, t σ H Q → Q [] H) (st : ∀ e ∈ ys, noStar e = true) (hdb : (x == ("__debug__" : Str)) = false) : PE X (.Call (.Name x px) ys [] pos) (tMakeO C sp E t) := by
  refine ⟨fun pins s σ H Q I h => ?_⟩
  refine wpAny_Call_Name_kw (ld_glob I hg hm ?_ hdb)
  cases ys with
  | nil => exact PySem.W.callWith_K0 I.kIn M.kp (run_makeS (us := []) (vs := []) M F hr hb (hx σ) I .nil (ht rfl σ H _ h))
  | cons y ys =>
    refine PySem.W.callWith_K (h₀ := X.base) I.ok.mod.kin M.kp (thn (ha.run pos pins s σ H _ I h) fun us s1 ⟨vs, H1, I1, r, q⟩ => ⟨I1.kIn, ?_⟩) (star_cons (st _ List.mem_cons_self)) (star_any fun z hz => st z (List.mem_cons_of_mem _ hz))
    exact run_makeS M F hr hb (hx σ) I1 r q
/-- a call that can't be -/
theorem pe_noneO {C : Addr} {x : Str} {px pos : Pos} {ys : List Expr} {t : TA} (kp : PySem.W.keepIn X.K (.ref C) = true) (hg : Gl X x) (hm : X.mg x = some (.ref C)) (ha : PA X ys t) (ht : ys = [] → ∀ σ H Q, t σ H Q → Q [] H) (st : ∀ e ∈ ys, noStar e = true) (hdb : (x == ("__debug__" : Str)) = false) :
    PE X (.Call (.Name x px) ys [] pos) (fun σ H _ => t σ H fun _ _ => False) := by
  refine ⟨fun pins s σ H Q I h => ?_⟩
  refine wpAny_Call_Name_kw (ld_glob I hg hm ?_ hdb)
  cases ys with
  | nil => exact (ht rfl σ H _ h).elim
  | cons y ys =>
    refine PySem.W.callWith_K (h₀ := X.base) I.ok.mod.kin kp (thn (ha.run pos pins s σ H _ I h) fun us s1 ⟨vs, H1, I1, r, q⟩ => ⟨I1.kIn, q.elim⟩) (star_cons (st _ List.mem_cons_self)) (star_any fun z hz => st z (List.mem_cons_of_mem _ hz))
theorem vals_some : ∀ as : List Val, valsE (as.map some) = some as
  | [] => rfl
  | a :: as => by simp only [List.map_cons, valsE, vals_some as, Option.map]
/-- no arguments -/
theorem sa_nil {as : Ex} (hs : Snd g p n c W X as) {ys : List Expr} (h4 : (chk p as c).s ys = true) : ys = [] → ∀ σ H Q, SA g W (evA ⟨callN p n, p.gs⟩ as).s σ H Q → Q [] H := fun e σ H Q q => by
  subst e
  obtain ⟨fs, t, ef⟩ := hs.l _ h4
  cases t
  rw [ef] at q
  obtain ⟨ρ4, st4, η4, w4, sl4, k3⟩ := q
  exact k3 ρ4 H Ext.refl w4 [] .nil
theorem snd_call (S : CxS g p n c W X) {as : Ex} (f : Nat) (hs : Snd g p n c W X as) : Snd g p n c W X (.call f as) := by
  refine snd_plain S rfl rfl (fun e h => ?_) (fun e h => ?_)
  · split at h
    · rfl
    · cases h
  · split at h
    · rename_i x px ys pos
      simp only [Bool.and_eq_true] at h
      obtain ⟨⟨⟨h1, h2⟩, h3⟩, h4⟩ := h
      obtain ⟨d1, _, _⟩ := dbg_of h2
      split at h3
      · rename_i d hd
        simp only [Bool.and_eq_true, Bool.not_eq_true'] at h3
        obtain ⟨h3, hm⟩ := h3
        have ex := of_decide_eq_true h3
        subst ex
        obtain ⟨st, pa⟩ := hs.s _ h4
        have FX := S.fns f d hd
        unfold FnX at FX
        cases hkd : d.kind with
        | fn =>
          rw [hkd] at FX
          obtain ⟨fa, fd, F, mg, kp, bd⟩ := FX
          have rd : ∀ σ H Q, SE g W (evA ⟨callN p n, p.gs⟩ (.call f as)).v σ H Q → tCallS (spF g p n f) (WE W) (SA g W (evA ⟨callN p n, p.gs⟩ as).s) σ H Q := by
            rintro σ H Q ⟨ρ, st1, η, w, sl, q⟩
            refine ⟨ρ, st1, η, w, sl, (Post.bind q).imp fun vs ρ1 st2 H1 e1 w1 q1 Vs rvs => ?_⟩
            exact ⟨ρ1, st2, vs, w1, rvs, ⟨d, hd, call_len (p := p) (n := n) (f := f) hd q1⟩, q1⟩
          cases ys with
          | nil =>
            refine PE.imp (⟨fun pins s σ H Q I q => ?_⟩ : PE X _ (tCallS (spF g p n f) (WE W) tNil)) fun σ H Q q => ?_
            · refine wpAny_Call_Name_kw (ld_glob I (S.gl h1) mg ?_ d1)
              exact PySem.W.callWith_K0 I.kIn kp (run_fnS (us := []) (vs := []) F S.room bd (passAt S.tk σ) I .nil q)
            · exact sa_nil hs h4 rfl _ _ _ (rd σ H Q q)
          | cons y ys =>
            exact PE.imp (pe_callS F S.room (S.gl h1) mg kp bd (fun σ => passAt S.tk σ) pa d1 (star_cons (st _ List.mem_cons_self)) (star_any fun z hz => st z (List.mem_cons_of_mem _ hz))) rd
        | meth k => simp [Def.isMeth, hkd] at hm
        | mk k fi =>
          rw [hkd] at FX
          obtain ⟨fI, fd, d', hd', hbody, hns, hpl, M, mg, F, bd⟩ := FX
          cases hn : n with
          | zero =>
            subst hn
            refine PE.imp (pe_noneO M.kp (S.gl h1) mg pa (sa_nil hs h4) st d1) ?_
            rintro σ H Q ⟨ρ, st1, η, w, sl, q⟩
            refine ⟨ρ, st1, η, w, sl, (Post.bind q).imp fun vs ρ1 st2 H1 e1 w1 q1 Vs rvs => ?_⟩
            have q1 : Post g (fun c d H' => W c d σ H') ρ1 H1 (callN p 0 f vs st2) fun v ρ' _ H' => ∀ V, Rel g ρ' H' v V → Q V H' := q1
            rw [callN_zero] at q1
            exact q1
          | succ m =>
            subst hn
            refine PE.imp (pe_makeO M (F m rfl) S.room (S.gl h1) mg bd (fun σ => passAt S.tk σ) pa (sa_nil hs h4) st d1) ?_
            rintro σ H Q ⟨ρ, st1, η, w, sl, q⟩
            refine ⟨ρ, st1, η, w, sl, (Post.bind q).imp fun vs ρ1 st2 H1 e1 w1 q1 Vs rvs x dx hx hdx nx => ?_⟩
            have q1 : Post g (fun c d H' => W c d σ H') ρ1 H1 (callN p (m + 1) f vs st2) fun v ρ' _ H' => ∀ V, Rel g ρ' H' v V → Q V H' := q1
            simp only [callN_succ, hd] at q1
            obtain ⟨hlen, q1⟩ := if_ok q1
            rw [hbody, hns, hlen, Nat.sub_self, List.replicate_zero, List.append_nil] at q1
            simp only [exec, vals_some] at q1
            have hxd : (upd H1 dx (.own x)) x = none := by rw [upd_ne (fun z => nx z.symm)]; exact hx
            have wd := w1.new (o := .own x) hdx
            have wx : Wd g (ρ1 ++ [x]) (st2 ++ [.ins k [] []]) (upd (upd H1 dx (.own x)) x (.ins (g.ca k) dx [])) := wd.alloc hxd ⟨dx, [], upd_same, rfl, .nil⟩
            have ex : Ext ρ1 H1 (ρ1 ++ [x]) (upd (upd H1 dx (.own x)) x (.ins (g.ca k) dx [])) := (Ext.new hdx).trans (Ext.alloc hxd)
            refine ⟨ρ1 ++ [x], st2 ++ [.ins k [] []], .loc st2.length :: vs, wx, .cons ?_ (rvs.ext ex), ⟨d', hd', by rw [hpl, ← hlen]; rfl⟩, ?_⟩
            · simp only [Rel]
              exact ⟨x, rfl, by rw [← w1.len]; simp⟩
            · cases hr : callN p m fi (.loc st2.length :: vs) (st2 ++ [.ins k [] []]) with
              | no => rw [hr] at q1; exact (show False from q1).elim
              | ex e st' =>
                rw [hr] at q1
                exact fun ρ' H' cls dd e' w' xr => q1 ρ' H' cls dd (ex.trans e') w' xr
              | ok v st' =>
                rw [hr] at q1
                intro ρ' H' e' w' V rV
                cases v with
                | non =>
                  simp only [Rel] at rV
                  refine ⟨rV, q1 ρ' H' (ex.trans e') w' _ ?_⟩
                  simp only [Rel]
                  obtain ⟨mm, hmm⟩ := e'.pre
                  exact ⟨x, rfl, by rw [hmm, ← w1.len]; simp⟩
                | _ => exact (show False from q1).elim
      · cases h3
    · cases h
theorem look_fld {ρ : List Addr} {H : Hp} {f : Txt} : ∀ {ks : List Txt} {xs : List Val} {x : Val} {kvs : List (Str × V)}, look f ks xs = some x → kvs.map (·.1) = ks.map tx → Rels g ρ H xs (kvs.map (·.2)) → ∃ v, kvs.lookup (tx f) = some v ∧ Rel g ρ H x v
  | [], _, _, _, h, _, _ => by simp [look] at h
  | _ :: _, [], _, _, h, _, _ => by simp [look] at h
  | k :: ks, y :: xs, x, [], h, e, r => by simp at e
  | k :: ks, y :: xs, x, (kk, v) :: kvs, h, e, r => by
    simp only [List.map_cons, List.cons.injEq] at e
    obtain ⟨rfl, e⟩ := e
    obtain ⟨v', rr, e2, r1, r2⟩ := r.cons_inv
    simp only [List.map_cons, List.cons.injEq] at e2
    obtain ⟨rfl, rfl⟩ := e2
    simp only [look] at h
    split at h
    · rename_i hk
      subst hk
      cases h
      exact ⟨v, by simp [List.lookup], r1⟩
    · rename_i hk
      obtain ⟨u, h1, h2⟩ := look_fld h e r2
      refine ⟨u, ?_, h2⟩
      have : (tx f == tx k) = false := beq_false_of_ne fun z => hk (tx_inj z).symm
      simp only [List.lookup, this]
      exact h1
theorem fld_none {f : Txt} : ∀ {ks : List Txt} {kvs : List (Str × V)}, f ∉ ks → kvs.map (·.1) = ks.map tx → kvs.lookup (tx f) = none
  | [], [], _, _ => rfl
  | [], _ :: _, _, e => by simp at e
  | _ :: _, [], _, e => by simp at e
  | k :: ks, (kk, v) :: kvs, h, e => by
    simp only [List.map_cons, List.cons.injEq] at e
    obtain ⟨rfl, e⟩ := e
    simp only [List.mem_cons, not_or] at h
    have : (tx f == tx k) = false := beq_false_of_ne fun z => h.1 (tx_inj z)
    simp only [List.lookup, this]
    exact fld_none h.2 e
theorem snd_fld (S : CxS g p n c W X) {o : Ex} (k : Nat) (f : Txt) (ho : Snd g p n c W X o) : Snd g p n c W X (.fld k f o) := by
  refine snd_plain S rfl rfl (fun e h => ?_) (fun e h => ?_)
  · split at h
    · rfl
    · cases h
  · split at h
    · rename_i x nm pos
      simp only [Bool.and_eq_true, decide_eq_true_eq] at h
      obtain ⟨⟨⟨rfl, h2⟩, h3⟩, h4⟩ := h
      unfold fldB at h3
      split at h3
      · rename_i q hq
        obtain ⟨cl, na⟩ := S.cls k q hq
        have hf : f ∈ q.2 := by simpa using h3
        refine PE.imp (pe_fld (ho.v x h4) (base_of h2)) ?_
        rintro σ H Q ⟨ρ, st1, η, w, sl, q⟩
        refine ⟨ρ, st1, η, w, sl, (Post.bind q).imp fun v ρ1 st2 H1 e1 w1 q1 V rv => ?_⟩
        obtain ⟨u, hu, q2⟩ := Post.opt q1
        unfold fldV at hu
        split at hu
        · rename_i m
          split at hu
          · rename_i c' ks xs ex
            split at hu
            · rename_i ec
              subst ec
              simp only [Rel] at rv
              obtain ⟨a, rfl, hp⟩ := rv
              obtain ⟨dx, kvs, k1, k2, k3⟩ := w1.ob m _ a ex hp
              obtain ⟨y, l1, l2⟩ := look_fld hu k2 k3
              exact ⟨a, _, dx, kvs, y, rfl, k1, cl, na f hf, l1, q2 ρ1 H1 Ext.refl w1 _ l2⟩
            · cases hu
          · cases hu
        · cases hu
      · cases h3
    · cases h
theorem snd_meth (S : CxS g p n c W X) {o as : Ex} (k f : Nat) (m : Txt) (ho : Snd g p n c W X o) (hs : Snd g p n c W X as) : Snd g p n c W X (.meth k f m o as) := by
  refine snd_plain S rfl rfl (fun e h => ?_) (fun e h => ?_)
  · split at h
    · rfl
    · cases h
  · split at h
    · rename_i x nm ap ys cp
      simp only [Bool.and_eq_true, decide_eq_true_eq] at h
      obtain ⟨⟨⟨⟨⟨⟨rfl, h2⟩, h3⟩, h4⟩, h5⟩, h6⟩, h7⟩ := h
      split at h4
      · rename_i d hd
        simp only [Bool.and_eq_true, decide_eq_true_eq] at h4
        obtain ⟨rfl, h4⟩ := h4
        unfold Def.isMethOf at h4
        split at h4
        · rename_i k' hkd
          have ek := of_decide_eq_true h4
          subst ek
          have FX := S.fns f d hd
          unfold FnX at FX
          rw [hkd] at FX
          obtain ⟨fa, fd, F, cl, hm, bd⟩ := FX
          obtain ⟨st, pa⟩ := hs.s _ h6
          refine PE.imp (pe_methO (ho.v x h5) cl hm F S.room bd (fun σ => passAt S.tk σ) pa (sa_nil hs h6) st h7 (base_of h2) h3) ?_
          rintro σ H Q ⟨ρ, st1, η, w, sl, q⟩
          refine ⟨ρ, st1, η, w, sl, (Post.bind q).imp fun v ρ1 st2 H1 e1 w1 q1 V rv => ?_⟩
          obtain ⟨io, q9⟩ := if_ok q1
          cases v with
          | loc m =>
            simp only [insOk] at io
            cases ex : st2[m]? with
            | none => rw [ex] at io; cases io
            | some ob =>
              rw [ex] at io
              cases ob with
              | ins c' ks xs =>
                simp only [Bool.and_eq_true, decide_eq_true_eq] at io
                obtain ⟨rfl, hnk⟩ := io
                have rv' := rv
                simp only [Rel] at rv
                obtain ⟨a, rfl, hp⟩ := rv
                obtain ⟨dx, kvs, k1, k2, k3⟩ := w1.ob m _ a ex hp
                refine ⟨a, dx, kvs, rfl, k1, fld_none hnk k2, ρ1, st2, η, w1, sl.ext e1, (Post.bind q9).imp fun vs ρ2 st3 H2 e2 w2 q2 Vs rvs => ?_⟩
                exact ⟨ρ2, st3, .loc m :: vs, w2, .cons (rv'.ext e2) rvs, ⟨d, hd, call_len (p := p) (n := n) (f := f) hd q2⟩, q2⟩
              | _ => cases io
          | _ => cases io
        · cases h4
      · cases h4
    · cases h
end
end Mi
namespace Mi
open PySem L2

section
variable {g : Gd} {p : Prg} {n : Nat} {c : CC} {W : WX} {X : Cx}
theorem wk_rng {ρ : List Addr} {H : Hp} (lo : Int) (m : Nat) : Wk g (Itr lo m) none ((List.range m).map fun (k : Nat) => Val.int (lo + k)) ρ H := by
  intro ρ' st' H' e w ck
  refine ⟨fun i x hx => ?_, fun i hi => ?_⟩
  · rw [List.getElem?_map] at hx
    cases q : (List.range m)[i]? with
    | none => rw [q] at hx; cases hx
    | some k =>
      rw [q] at hx
      cases hx
      obtain ⟨h1, h2⟩ := List.getElem?_eq_some_iff.mp q
      simp at h1 h2
      subst h2
      refine ⟨h1, fun V H2 y => ?_⟩
      obtain ⟨e2, rfl⟩ := y
      exact ⟨e2, rel_int⟩
  · simp at hi
    exact hi
theorem snd_rng1 (S : CxS g p n c W X) {a : Ex} (ha : Snd g p n c W X a) : Snd g p n c W X (.rng1 a) := by
  refine ⟨fun e h => ?_, fun e h => ?_, fun op vs pos h => ?_, fun es h => ?_, fun oe h => ?_, fun tg e h => ?_, fun es h => ?_⟩
  · exact (nomatch (show false = true from h))
  · exact (nomatch (show false = true from h))
  · exact (nomatch (show false = true from h))
  · exact (nomatch (show false = true from h))
  · exact (nomatch (show false = true from h))
  · simp only [chk] at h
    split at h
    · rename_i x px y pos
      simp only [Bool.and_eq_true] at h
      obtain ⟨gx, mx, rfl⟩ := blt_of S h.1.1 (by decide)
      refine PI.imp (pi_range1 gx mx (pa_cons (ha.v y h.2) pa_nil (star_cons h.1.2)) (by rw [star_cons h.1.2]; rfl)) ?_
      rintro σ H R ⟨ρ, st1, η, w, sl, q⟩
      refine ⟨ρ, st1, η, w, sl, (Post.bind q).imp fun v ρ1 st2 H1 e1 w1 q1 V rv => ?_⟩
      cases v with
      | int j =>
        obtain ⟨k1, q1⟩ := if_ok q1
        simp only [Rel] at rv
        subst rv
        refine ⟨j, rfl, by omega, by omega, (q1 ρ1 H1 Ext.refl w1).2 _ ?_⟩
        have := wk_rng (g := g) (ρ := ρ1) (H := H1) 0 j.toNat
        simpa using this
      | _ => exact (show False from q1).elim
    · cases h
  · exact (nomatch (show false = true from h))
theorem snd_rng2 (S : CxS g p n c W X) {a b : Ex} (ha : Snd g p n c W X a) (hb : Snd g p n c W X b) : Snd g p n c W X (.rng2 a b) := by
  refine ⟨fun e h => ?_, fun e h => ?_, fun op vs pos h => ?_, fun es h => ?_, fun oe h => ?_, fun tg e h => ?_, fun es h => ?_⟩
  · exact (nomatch (show false = true from h))
  · exact (nomatch (show false = true from h))
  · exact (nomatch (show false = true from h))
  · exact (nomatch (show false = true from h))
  · exact (nomatch (show false = true from h))
  · simp only [chk] at h
    split at h
    · rename_i x px y z pos
      simp only [Bool.and_eq_true] at h
      obtain ⟨⟨⟨⟨h1, h2⟩, h3⟩, h4⟩, h5⟩ := h
      obtain ⟨gx, mx, rfl⟩ := blt_of S h1 (by decide)
      refine PI.imp (pi_range2 gx mx (pa_cons (ha.v y h4) (pa_cons (hb.v z h5) pa_nil (star_cons h3)) (star_cons h2)) (by rw [star_cons h2, star_cons h3]; rfl) (by rw [star_cons h3]; rfl)) ?_
      rintro σ H R ⟨ρ, st1, η, w, sl, q⟩
      refine ⟨ρ, st1, η, w, sl, (Post.bind q).imp fun v ρ1 st2 H1 e1 w1 q1 V rv => ?_⟩
      refine ⟨ρ1, st2, η, w1, sl.ext e1, (Post.bind q1).imp fun u ρ2 st3 H2 e2 w2 q2 U ru => ?_⟩
      cases v with
      | int i =>
        cases u with
        | int j =>
          obtain ⟨k1, q2⟩ := if_ok q2
          simp only [Rel] at rv ru
          subst rv ru
          exact ⟨i, j, rfl, ⟨by omega, by omega, by omega, by omega⟩, (q2 ρ2 H2 Ext.refl w2).2 _ (wk_rng i _)⟩
        | _ => exact (show False from q2).elim
      | _ => exact (show False from q2).elim
    · cases h
  · exact (nomatch (show false = true from h))

/-! targets -/
def Tg.has : Tg → Nat → Prop
  | .nm j, i => i = j
  | .tp js, i => i ∈ js
def TGR (g : Gd) (tg : Tg) : TG := fun V σ H Q => ∃ ρ st η v, Wd g ρ st H ∧ Slots g ρ H η σ ∧ Rel g ρ H v V ∧ ∃ η', asgTg tg v η = some η' ∧ ∀ σ', Slots g ρ H η' σ' → (∀ i, ¬ tg.has i → σ'[i]? = σ[i]?) → σ'.length = σ.length → Q σ' H
theorem asgs_rd {ρ : List Addr} {H : Hp} (S : CxS g p n c W X) : ∀ {is : List Nat} {es : List Expr}, is.length = es.length → ((is.zip es).all fun q => match q.2 with
      | .Name x _ => decide (c.N[q.1]? = some x) && tgB c x && noDbg x
      | _ => false) = true →
    ∃ t, PGs X es t ∧ (assignEach es X.env).length = es.length ∧ (assignEach es X.env).findIdx? (·.1) = none ∧ ∀ (xs : List Val) (vs : List V) (η η' : Env) (σ : St) (Q : St → Hp → Prop), Slots g ρ H η σ → Rels g ρ H xs vs → asgs is xs η = some η' →
      (∀ σ', Slots g ρ H η' σ' → (∀ i, i ∉ is → σ'[i]? = σ[i]?) → σ'.length = σ.length → Q σ' H) → t vs σ H Q
  | [], [], _, _ => by
    refine ⟨gNil, pgs_nil, rfl, rfl, fun xs vs η η' σ Q sl r h k => ?_⟩
    cases xs with
    | cons _ _ => simp [asgs] at h
    | nil =>
      simp only [asgs, Option.some.injEq] at h
      subst h
      simp only [Rels] at r
      exact ⟨r, k σ sl (fun _ _ => rfl) rfl⟩
  | [], _ :: _, h, _ => by cases h
  | _ :: _, [], h, _ => by cases h
  | i :: is, e :: es, hl, h => by
    simp only [List.zip_cons_cons, List.all_cons, Bool.and_eq_true] at h
    obtain ⟨h1, h2⟩ := h
    obtain ⟨t, a1, a2, a3, a4⟩ := asgs_rd S (is := is) (es := es) (by simpa using hl) h2
    split at h1
    · rename_i x pos
      simp only [Bool.and_eq_true, decide_eq_true_eq] at h1
      obtain ⟨k1, k2⟩ := S.tg h1.1.2
      refine ⟨_, pgs_cons (pg_name (i := i) (by rw [S.N]; exact S.nd) (by rw [S.N]; exact h1.1.1) k1 k2) a1 rfl, by simp [assignEach, a2], ?_, fun xs vs η η' σ Q sl r hh k => ?_⟩
      · rw [show assignEach (Expr.Name x pos :: es) X.env = (false, assign (.Name x pos) X.env) :: assignEach es X.env from rfl, List.findIdx?_cons]
        simp [a3]
      · cases xs with
        | nil => simp [asgs] at hh
        | cons v xs =>
          simp only [asgs] at hh
          obtain ⟨V, r', rfl, r1, r2⟩ := r.cons_inv
          refine ⟨V, r', rfl, ?_⟩
          refine a4 xs r' (η.set i (some v)) η' (σ.set i (some V)) Q (sl.set i r1) r2 hh fun σ' s1 s2 s3 => k σ' s1 (fun j hj => ?_) (by rw [s3, List.length_set])
          simp only [List.mem_cons, not_or] at hj
          rw [s2 j hj.2, List.getElem?_set_ne (fun z => hj.1 z.symm)]
    · cases h1
theorem tg_rd (S : CxS g p n c W X) {tg : Tg} {e : Expr} (h : tgOk c tg e = true) : PG X e (TGR g tg) := by
  refine ⟨fun pins s σ H V u Q I r q => ?_⟩
  obtain ⟨ρ, st, η, v, w, sl, rv, η', ha, k⟩ := q
  cases tg with
  | nm i =>
    cases e with
    | Name x pos =>
      simp only [tgOk, Bool.and_eq_true, decide_eq_true_eq] at h
      obtain ⟨k1, k2⟩ := S.tg h.1.2
      simp only [asgTg, Option.some.injEq] at ha
      subst ha
      refine (pg_name (i := i) (by rw [S.N]; exact S.nd) (by rw [S.N]; exact h.1.1) k1 k2).run pins s σ H V u Q I r (k _ (sl.set i rv) (fun j hj => ?_) (by rw [List.length_set]))
      rw [List.getElem?_set_ne (fun z => hj z.symm)]
    | _ => exact (nomatch (show false = true from h))
  | tp is =>
    cases e with
    | Tuple es kk pos =>
      simp only [tgOk, Bool.and_eq_true, beq_iff_eq] at h
      obtain ⟨t, a1, a2, a3, a4⟩ := asgs_rd (ρ := ρ) (H := H) S h.1 h.2
      cases v with
      | tup xs =>
        simp only [asgTg] at ha
        obtain ⟨a, vs, rfl, h1, h2, h3⟩ := tup_sd rv
        refine (pg_tup S.calm a1 a2 a3).run pins s σ H _ u Q I r ⟨a, vs, rfl, S.K ▸ h1, ?_, a4 xs vs η η' σ Q sl h3 ha k⟩
        have : ∀ (is : List Nat) (xs : List Val) (η η' : Env), asgs is xs η = some η' → is.length = xs.length := by
          intro is
          induction is with
          | nil => intro xs η η' hh; cases xs with | nil => rfl | cons _ _ => simp [asgs] at hh
          | cons i is ih => intro xs η η' hh; cases xs with | nil => simp [asgs] at hh | cons x xs => simp only [asgs] at hh; simp [ih _ _ _ hh]
        rw [← h3.length, ← this _ _ _ _ ha, h.1]
      | _ => simp [asgTg] at ha
    | _ => exact (nomatch (show false = true from h))
end
end Mi
namespace Mi
open PySem L2 PySem.Spec PyProof.Rows

abbrev pr1 (y : Str) (ap : Pos) : Arguments := ⟨[], [⟨y, none, ap⟩], none, [], [], none, []⟩
abbrev sc1 (y : Str) : Scope := ⟨.function, [(y, .local)], false, false, []⟩
abbrev bd1 (y : Str) (j : Nat) (p1 p2 p3 : Pos) : Expr := .Subscript (.Name y p1) (.Constant (.int 0) j p2) p3
theorem bind1 {q y : Str} {ap : Pos} {body : Expr} {sc : Scope} {cl : List (Str × Addr)} {pm cv ctv v : Value} :
    bindArgs (PySem.W.kla_fn "<lambda>" q (pr1 y ap) body sc cl pm cv ctv) ⟨[v], []⟩ = pure [(y, v)] := by
  have e : ([(y, v)] : List (Str × Value)).lookup y = some v := by simp [List.lookup]
  simp [bindArgs, PySem.W.kla_fn, seqItems?, notAStandIn, e]
  try rfl
theorem lam_turn {prog : Program} {w : World} {A : Around} {s : Shared} {f c' t : Addr} {qual y : Str} {ap p1 p2 p3 : Pos} {j : Nat} {cl : List (Str × Addr)} {pm ctv : Value} {z : Str} {tk : Tok} {rest : List Value}
    (hd : A.depth < recursionLimit) (lim : s.heap.NoLimit) (hdb : (y == ("__debug__" : Str)) = false)
    (hf : s.heap.get? f = some (PySem.W.kla_obj "<lambda>" qual (pr1 y ap) (bd1 y j p1 p2 p3) (sc1 y) cl pm c' ctv)) (hc : s.heap.CodeRec (.ref c') qual)
    (ht : IsTup s.heap t (Value.str z tk :: rest).toArray) :
    wpAny (model prog w) A (call (.ref f) [.ref t]) (PySem.W.KeyPure (.str z) s) (fun _ _ => False) s := by
  refine wpAny_call (PySem.W.kla_callFunE hd hf rfl rfl rfl rfl hc ?_)
  rw [bind1]
  refine wpAny_pure (wpAny_newFunctionEnv (by simp) (by simp [List.lookup]) (fun h₁ hns hsb => ⟨lim.fresh _ hsb, ?_⟩) rfl)
  refine PySem.W.kla_codeExpr ?_
  have kp : ∀ b o, s.heap.get? b = some o → h₁.get? b = some o := fun b o e => hsb.extBut b o (Nat.ne_of_lt (Heap.lt_size e)) (Heap.get?_push_of_some _ e)
  refine Subscript_ (wpAny_Name (wpAny_loadName_local rfl (by simp [Env.kindOf, newEnv, List.lookup]) hns (v := .ref t) (by simp [List.lookup]) ?_) hdb)
  refine wpAny_Constant_int ?_
  have ht1 : IsTup h₁ t (Value.str z tk :: rest).toArray := by
    obtain ⟨o, e, r⟩ := ht
    exact ⟨o, kp _ _ e, r⟩
  refine item_tuple (j := 0) (x := .str z tk) ht1 (by decide) (by decide) ?_ (by simp) ?_
  · simp [seqIndex?]
  · exact ⟨h₁, _, rfl, kp, .str z tk⟩

/-! rows by their texts -/
def LeK (x y : Txt × Val) : Prop := ltT y.1 x.1 = false
theorem insK_perm (x : Txt × Val) : ∀ l : List (Txt × Val), (insK x l).Perm (x :: l)
  | [] => .refl _
  | y :: ys => by
    unfold insK
    split
    · exact ((insK_perm x ys).cons y).trans (.swap ..)
    · exact .refl _
theorem sortKs_perm : ∀ l : List (Txt × Val), (sortKs l).Perm l
  | [] => .refl _
  | x :: xs => (insK_perm x _).trans ((sortKs_perm xs).cons x)
theorem insK_sorted (x : Txt × Val) : ∀ {l : List (Txt × Val)}, l.Pairwise LeK → (insK x l).Pairwise LeK
  | [], _ => by simp [insK]
  | y :: ys, h => by
    obtain ⟨h1, h2⟩ := List.pairwise_cons.mp h
    unfold insK
    split
    · rename_i q
      refine List.pairwise_cons.mpr ⟨fun z hz => ?_, insK_sorted x h2⟩
      rcases List.mem_cons.mp ((insK_perm x ys).mem_iff.mp hz) with rfl | hz
      · exact ltT_asymm q
      · exact h1 z hz
    · rename_i q
      have q : ltT y.1 x.1 = false := by simpa using q
      refine List.pairwise_cons.mpr ⟨fun z hz => ?_, h⟩
      rcases List.mem_cons.mp hz with rfl | hz
      · exact q
      · exact ltT_le q (h1 z hz)
theorem sortKs_sorted : ∀ l : List (Txt × Val), (sortKs l).Pairwise LeK
  | [] => List.Pairwise.nil
  | x :: xs => insK_sorted x (sortKs_sorted xs)
theorem nodup_key {l : List (Txt × Val)} (nd : (l.map (·.1)).Nodup) : ∀ {x y : Txt × Val}, x ∈ l → y ∈ l → x.1 = y.1 → x = y := by
  induction l with
  | nil => intro x y h; cases h
  | cons a l ih =>
    intro x y hx hy e
    obtain ⟨n1, n2⟩ := List.nodup_cons.mp nd
    rcases List.mem_cons.mp hx with h1 | h1 <;> rcases List.mem_cons.mp hy with h2 | h2
    · rw [h1, h2]
    · exact (n1 (List.mem_map.mpr ⟨y, h2, by rw [← e, h1]⟩)).elim
    · exact (n1 (List.mem_map.mpr ⟨x, h1, by rw [e, h2]⟩)).elim
    · exact ih n2 h1 h2 e
theorem sortK_uniq {a l : List (Txt × Val)} (nd : (l.map (·.1)).Nodup) (h1 : a.Pairwise LeK) (p : a.Perm l) : a = sortKs l :=
  List.Perm.eq_of_pairwise (fun x y hx hy h k => nodup_key nd (p.mem_iff.mp hx) ((sortKs_perm l).mem_iff.mp hy) (ltT_tri k h)) h1 (sortKs_sorted l) (p.trans (sortKs_perm l).symm)
theorem le_key {x y : (Txt × Val) × V} : PySem.W.dataLe false (fun b : (Txt × Val) × V => PyData.str (tx b.1.1)) x y = !ltT y.1.1 x.1.1 := by
  show (!PyProof.Rows.lexLt PyProof.Rows.itemOrd (PySem.W.keyToks (.str (tx y.1.1))) (PySem.W.keyToks (.str (tx x.1.1)))) = _
  simp only [PySem.W.keyToks, tx_list]
  have : PyProof.Rows.lexLt PyProof.Rows.itemOrd [Sum.inr y.1.1] [Sum.inr x.1.1] = ltT y.1.1 x.1.1 := by
    rw [PyProof.Rows.lex_cons]
    rw [show PyProof.Rows.itemOrd.blt (Sum.inr y.1.1) (Sum.inr x.1.1) = ltT y.1.1 x.1.1 from by
      first
      | exact ltT_cps _ _
      | exact lt_ltT _ _
      | (show PyProof.Rows.strKind.blt y.1.1 x.1.1 = _; simp only [PyProof.Rows.strKind]; first | exact ltT_cps _ _ | exact lt_ltT _ _)]
    rw [show PyProof.Rows.lexLt PyProof.Rows.itemOrd [] [] = false by simp [PyProof.Rows.lexLt], Bool.and_false, Bool.or_false]
  rw [this]
section
variable {g : Gd} {p : Prg} {n : Nat} {c : CC} {W : WX} {X : Cx}
/-- the world behind the making of a lambda -/
theorem lam_world {ρ : List Addr} {st : Store} {H1 H2 : Hp} (w : Wd g ρ st H1) (eN : LamX.ExtN H1 H2) (T2 : LamX.Tabs g.tb H2) : Ext ρ H1 ρ H2 ∧ Wd g ρ st H2 := by
  have e : Ext ρ H1 ρ H2 := ⟨⟨[], by simp⟩, fun a xs h => eN _ _ h (fun _ z => by cases z), fun a o u h => eN _ _ h (fun _ z => by cases z), fun a o h t n => ⟨eN _ _ h t, n⟩⟩
  have nt : ∀ {m : Nat} {ob : Ob} {a : Addr}, st[m]? = some ob → ρ[m]? = some a → ∃ u, H1 a = some u ∧ H2 a = some u ∧ ∀ φ, u ≠ .ext φ := fun {m ob a} h1 h2 => by
    have ob' := w.ob m ob a h1 h2
    cases ob with
    | lst xs => obtain ⟨vs, k, _⟩ := ob'; exact ⟨_, k, eN _ _ k (fun _ z => by cases z), fun _ z => by cases z⟩
    | dct ks xs => obtain ⟨vs, k, _⟩ := ob'; exact ⟨_, k, eN _ _ k (fun _ z => by cases z), fun _ z => by cases z⟩
    | ins cc fs xs => obtain ⟨dx, vs, k, _⟩ := ob'; exact ⟨_, k, eN _ _ k (fun _ z => by cases z), fun _ z => by cases z⟩
    | dead => obtain ⟨o, u, k⟩ := ob'; exact ⟨_, k, eN _ _ k (fun _ z => by cases z), fun _ z => by cases z⟩
  refine ⟨e, w.len, w.nd, fun m ob a h1 h2 => ?_, fun q hq => ?_⟩
  · obtain ⟨u, k1, k2, _⟩ := nt h1 h2
    exact (w.ob m ob a h1 h2).ext e (k2.trans k1.symm)
  · obtain ⟨ps, h1, h2, h3⟩ := T2 q hq
    refine ⟨(w.tb q hq).1, ps, h1, h2, fun pos cv hc => ?_⟩
    obtain ⟨cc, e1, e2⟩ := h3 pos cv hc
    refine ⟨cc, e1, fun hm => ?_, e2⟩
    obtain ⟨m, hm, em⟩ := List.getElem_of_mem hm
    have hm' : m < st.length := by rw [← w.len]; exact hm
    obtain ⟨u, _, k2, k3⟩ := nt (List.getElem?_eq_getElem hm') (by rw [List.getElem?_eq_getElem hm, em])
    rw [e2] at k2
    exact k3 _ (Option.some.inj k2).symm
theorem rows_of : ∀ {xs : List Val} {ps : List (Txt × Val)}, rowsOf xs = some ps → ps.map (·.2) = xs ∧ ∀ q ∈ ps, ∃ r, q.2 = .tup (.str q.1 :: r)
  | [], ps, h => by
    simp only [rowsOf, Option.some.injEq] at h
    subst h; exact ⟨rfl, fun q hq => by cases hq⟩
  | x :: xs, ps, h => by
    match x, h with
    | .tup (.str k :: r), h =>
      simp only [rowsOf, Option.map_eq_some_iff] at h
      obtain ⟨qs, h1, rfl⟩ := h
      obtain ⟨a, b⟩ := rows_of h1
      refine ⟨by rw [List.map_cons, a], fun q hq => ?_⟩
      rcases List.mem_cons.mp hq with rfl | hq
      · exact ⟨r, rfl⟩
      · exact b q hq
    | .non, h | .bl _, h | .int _, h | .str _, h | .lst _, h | .dct _ _, h | .loc _, h => simp [rowsOf] at h
    | .tup [], h => simp [rowsOf] at h
    | .tup (.non :: _), h | .tup (.bl _ :: _), h | .tup (.int _ :: _), h | .tup (.tup _ :: _), h | .tup (.lst _ :: _), h | .tup (.dct _ _ :: _), h | .tup (.loc _ :: _), h => simp [rowsOf] at h
theorem rels_zip {ρ : List Addr} {H : Hp} : ∀ {ps : List (Txt × Val)} {us : List V}, Rels g ρ H (ps.map (·.2)) us → ∀ b ∈ ps.zip us, Rel g ρ H b.1.2 b.2
  | [], us, _, b, hb => by simp at hb
  | q :: ps, us, h, b, hb => by
    obtain ⟨v, r, rfl, h1, h2⟩ := h.cons_inv
    rcases List.mem_cons.mp hb with rfl | hb
    · exact h1
    · exact rels_zip h2 b hb
theorem rels_map {ρ : List Addr} {H : Hp} : ∀ {bs : List ((Txt × Val) × V)}, (∀ b ∈ bs, Rel g ρ H b.1.2 b.2) → Rels g ρ H ((bs.map (·.1)).map (·.2)) (bs.map (·.2))
  | [], _ => .nil
  | b :: bs, h => .cons (h b List.mem_cons_self) (rels_map fun z hz => h z (List.mem_cons_of_mem _ hz))
theorem vals_each {R : Value → (Txt × Val) × V → Prop} : ∀ {vs : List V} {its : List Value} {ps : List (Txt × Val)}, Vals vs its → ps.length = vs.length → (∀ u b, RelV b.2 u → R u b) → PySem.W.EachIs R its (ps.zip vs)
  | [], its, ps, h, hl, k => by
    cases h
    cases ps with
    | nil => exact .nil
    | cons _ _ => cases hl
  | v :: vs, its, ps, h, hl, k => by
    cases ps with
    | nil => cases hl
    | cons q ps =>
      cases h with
      | cons h1 h2 => exact .cons (k _ _ h1) (vals_each h2 (by simpa using hl) k)
theorem each_vals : ∀ {its : List Value} {bs : List ((Txt × Val) × V)}, PySem.W.EachIs (fun v b => RelV b.2 v) its bs → Vals (bs.map (·.2)) its
  | _, _, .nil => .nil
  | _, _, .cons h t => .cons h (each_vals t)
theorem pe_sortK (S : CxS g p n c W X) (hl : c.lam = true) {f y : Str} {fp ap p1 p2 p3 lp kp pos : Pos} {j : Nat} {x : Expr} {Fa : Env → Store → Res Val} (hf : bltB c f "sorted" = true) (hst : noStar x = true) (hdb : noDbg y = true) (hx : PE X x (SE g W Fa)) :
    PE X (.Call (.Name f fp) [x] [⟨some (Str.ofString "key"), .Lambda (pr1 y ap) (bd1 y j p1 p2 p3) (sc1 y) lp, kp⟩] pos)
      (SE g W fun η st => (Fa η st).bind fun x st => match (asL st x).bind rowsOf with
        | some ps => if (ps.map (·.1)).Nodup then .ok (.lst ((sortKs ps).map (·.2))) st else .no
        | none => .no) := by
  obtain ⟨gx, mx, rfl⟩ := blt_of S hf (by decide)
  obtain ⟨cA, P, hcode, TB, hmem, huniq⟩ := S.lam hl
  refine ⟨fun pins s σ H Q I q => ?_⟩
  obtain ⟨ρ, st, η, w, sl, q⟩ := q
  refine wpAny_Call_Name_kw (ld_blt I gx mx (show bootBuiltins "sorted" = some (.builtin "sorted") by decide +kernel) ?_ (by decide) (by decide))
  have hpa : PA X [x] (tCons (SE g W Fa) tNil) := pa_cons hx pa_nil (star_cons hst)
  refine PyProof.Rows.callWith_kw (thn (hpa.run pos pins s σ H (fun vs H1 => ∃ V ρ1 st1 v, vs = [V] ∧ Wd g ρ1 st1 H1 ∧ Rel g ρ1 H1 v V ∧ Post g (fun c d H' => W c d σ H') ρ1 H1 (match (asL st1 v).bind rowsOf with
        | some ps => if (ps.map (·.1)).Nodup then .ok (.lst ((sortKs ps).map (·.2))) st1 else .no
        | none => .no) fun v ρ' _ H' => ∀ V, Rel g ρ' H' v V → Q V H') I ⟨ρ, st, η, w, sl, (Post.bind q).imp fun v ρ1 st1 H1 e1 w1 q1 V rv => ⟨V, ρ1, st1, v, rfl, w1, rv, q1⟩⟩) fun us s1 ⟨vs, H1, I1, r1, q1⟩ => ?_) (by rw [star_cons hst]; rfl) (star_any (es := [x]) (fun e he => by simp at he; rw [he]; exact hst)) (by rfl) (by rfl)
  obtain ⟨V, ρ1, st1, v, rfl, w1, rv, q1⟩ := q1
  cases hxs : asL st1 v with
  | none => rw [hxs] at q1; exact (show False from q1).elim
  | some xs =>
    rw [hxs] at q1
    cases hps : rowsOf xs with
    | none => simp only [Option.bind_some, hps] at q1; exact (show False from q1).elim
    | some ps =>
      simp only [Option.bind_some, hps] at q1
      obtain ⟨nd, q2⟩ := if_ok q1
      obtain ⟨a, us', rfl, hsq, hlen, hrel⟩ := asL_sd w1 rv hxs
      obtain ⟨erow, hrow⟩ := rows_of hps
      have hT : LamX.Tabs g.tb H1 := fun q hq => by
        obtain ⟨_, ps, k1, k2, k3⟩ := w1.tb q hq
        exact ⟨ps, k1, k2, fun pos cv hc => let ⟨c, e1, _, e2⟩ := k3 pos cv hc; ⟨c, e1, e2⟩⟩
      show wpAny _ _ (evalAll ((do let v ← eval (.Lambda (pr1 y ap) (bd1 y j p1 p2 p3) (sc1 y) lp) X.env; standAt pos; pure v) :: [])) _ _ s1
      refine wpAny_evalAll_cons (wpAny_bind (LamX.lam_make2 (T := g.tb) I1 TB hcode hmem huniq hT rfl (by simp) fun fA c' pm ctv H2 s2 I2 eN T2 hfo hfn hfr hco => wpAny_bind (wpAny_standAt (wpAny_pure (wpAny_evalAll_nil ?_)))))
      obtain ⟨e2, w2⟩ := lam_world w1 eN T2
      obtain ⟨u0, rfl⟩ : ∃ u, us = [u] := by cases r1 with | cons _ t => cases t; exact ⟨_, rfl⟩
      have eu : u0 = .ref a := by cases r1 with | cons h _ => exact h
      subst eu
      show wpAny _ _ (call (.builtin "sorted") [.ref a] [(Str.ofString "key", .ref fA)]) _ _ s2
      have hsq2 : SqL X.K H2 a us' := by
        rw [S.K]
        rcases hsq with (h | ⟨o, h⟩) | h
        · exact .inl (.inl (eN _ _ h (fun _ z => by cases z)))
        · exact .inl (.inr ⟨o, eN _ _ h (fun _ z => by cases z)⟩)
        · exact .inr h
      have hrel2 : Rels g ρ1 H2 (ps.map (·.2)) us' := by rw [erow]; exact hrel.ext e2
      have hpl : ps.length = us'.length := by have := hrel2.length; simpa using this
      have hz := rels_zip hrel2
      have hkey : ∀ b ∈ ps.zip us', b.1 ∈ ps := fun b hb => (List.of_mem_zip hb).1
      obtain ⟨its, rvals, pl, hzz⟩ := I2.list hsq2
      have fin : ∀ {out : List Value} {bs : List ((Txt × Val) × V)} {h' : Heap} {tk cc : Nat}, (∀ b o, s2.heap.get? b = some o → h'.get? b = some o) → h'.get? (s2.heap.objs.size + 1) = some (PyProof.Rows.seqObj "list" (List.toArray out) cc) →
          PySem.W.EachIs (fun v b => RelV b.2 v) out bs → (∀ b ∈ bs, Rel g ρ1 H2 b.1.2 b.2) → (bs.map (·.1)) = sortKs ps → bs.length ≤ sizeLine → EP X pins σ Q (.ref (s2.heap.objs.size + 1)) { s2 with heap := h', toks := tk } := fun {out bs h' tk cc} kp hD he hr ek hln => by
        refine EP.sh ⟨.ref _, upd H2 (s2.heap.objs.size + 1) (.lst (bs.map (·.2))), I2.laid (t' := tk) kp (Nat.le_succ _) ⟨by rw [List.length_map]; exact hln, out, cc, each_vals he, hD⟩, rfl, ?_⟩
        have rr := rels_map hr
        rw [ek] at rr
        refine shL w2 rr (by rw [List.length_map, ← ek, List.length_map]; exact hln) (fun ρ' H' e' w' V rV => q2 ρ' H' (e2.trans e') w' V rV) (I2.hok.fresh (Nat.le_succ _))
      have hzl : (ps.zip us').length ≤ sizeLine := by rw [List.length_zip, hpl, Nat.min_self]; exact hzz
      refine PySem.W.sorted_key_data (β := (Txt × Val) × V) (vs := its) (bs := ps.zip us') (R := fun v b => RelV b.2 v) (b := false) (f := .ref fA) (fun b => .str (tx b.1.1)) pl.isList (vals_each rvals hpl fun _ _ h => h) ?_ ?_ hzl ?_ (PyProof.Rows.ksk_s1 _ _) (fun x => PyProof.Rows.ksk_l1 _ _) (fun x => PyProof.Rows.ksk_t1 _ _) ?_ ?_
      · intro d hd d' hd'
        obtain ⟨_, _, rfl⟩ := List.mem_map.mp hd
        obtain ⟨_, _, rfl⟩ := List.mem_map.mp hd'
        simp [PySem.W.alike]
      · refine .inr fun d hd => ?_
        obtain ⟨_, _, rfl⟩ := List.mem_map.mp hd
        exact ⟨(by intro z; cases z), (by intro _ z; cases z)⟩
      · intro b _
        have := S.room.un
        simp only [PyData.depth]
        omega
      · intro u b hb hmb h tk kp'
        obtain ⟨r, er⟩ := hrow _ (hkey b hmb)
        have hrb := hz b hmb
        rw [er] at hrb
        simp only [Rel] at hrb
        obtain ⟨t, vs, ev, h1, _, h3⟩ := hrb
        obtain ⟨v1, vr, rfl, k1, _⟩ := h3.cons_inv
        simp only [Rel] at k1
        obtain ⟨rfl, _⟩ := k1
        rw [ev] at hb
        obtain rfl : u = .ref t := hb
        obtain ⟨its2, rv2, pl2, _⟩ := I2.tuple (a := t) (xs := .str (tx b.1.1) :: vr) (by rw [S.K]; exact sqT_of h1)
        obtain ⟨⟨oc, vs, t0, c1, c2, c3⟩, _, _⟩ := I2.hok c' _ hco
        have ht : IsTup h t its2.toArray := by
          obtain ⟨o, e, r⟩ := pl2
          exact ⟨o, kp' _ _ e, r⟩
        cases rv2 with
        | cons hv hr =>
          obtain ⟨tk2, rfl⟩ := hv
          refine lam_turn (s := { s2 with heap := h, toks := tk }) ?_ (I2.nolimit.keeps kp') (dbg_of hdb).1 (kp' _ _ hfo) ⟨c', oc, vs, t0, rfl, kp' _ _ c1, c2, c3⟩ ht
          have := S.room.dp
          show X.A.depth < _
          omega
      · intro out cc h' tk kp' _ hD hlen2 he
        have pm : ((ps.zip us').mergeSort (PySem.W.dataLe false fun b => .str (tx b.1.1))).Perm (ps.zip us') := List.mergeSort_perm ..
        refine fin kp' hD he (fun b hb => hz b (pm.mem_iff.mp hb)) ?_ (by rw [pm.length_eq]; exact hzl)
        refine sortK_uniq nd ?_ ?_
        · have T := PySem.W.sortLe_total (PyProof.Rows.listOrd PyProof.Rows.itemOrd) false fun b : (Txt × Val) × V => PySem.W.keyToks (.str (tx b.1.1))
          have so := List.pairwise_mergeSort (le := PySem.W.dataLe false fun b : (Txt × Val) × V => .str (tx b.1.1)) T.trans (fun a b => by rw [Bool.or_eq_true]; exact T.total a b) (ps.zip us')
          rw [List.pairwise_map]
          refine so.imp fun {x y} h => ?_
          rw [le_key] at h
          show ltT y.1.1 x.1.1 = false
          simpa using h
        · have := pm.map (·.1)
          rw [List.map_fst_zip (by omega)] at this
          exact this
theorem snd_sortK (S : CxS g p n c W X) {a : Ex} (ha : Snd g p n c W X a) : Snd g p n c W X (.sortK a) := by
  refine snd_plain S rfl rfl (fun e h => ?_) (fun e h => ?_)
  · split at h
    · rfl
    · cases h
  · split at h
    · simp only [Bool.and_eq_true, decide_eq_true_eq] at h
      obtain ⟨⟨⟨⟨⟨⟨⟨hl, hf⟩, hst⟩, rfl⟩, rfl⟩, rfl⟩, hdb⟩, hx⟩ := h
      exact pe_sortK S hl hf hst hdb (ha.v _ hx)
    · cases h
end
end Mi
namespace Mi
open PySem L2

/-! d.get(k, x); a written dict: in, not in, d[k] -/
section
variable {g : Gd} {p : Prg} {n : Nat} {c : CC} {W : WX} {X : Cx}
theorem snd_dget (S : CxS g p n c W X) {o k d : Ex} (ho : Snd g p n c W X o) (hk : Snd g p n c W X k) (hd : Snd g p n c W X d) : Snd g p n c W X (.dget o k d) := by
  refine snd_plain S rfl rfl (fun e h => ?_) (fun e h => ?_)
  · split at h
    · rfl
    · cases h
  · split at h
    · rename_i x nm ap y z cp
      simp only [Bool.and_eq_true, decide_eq_true_eq] at h
      obtain ⟨⟨⟨⟨⟨⟨⟨rfl, h2⟩, h3⟩, h4⟩, h5⟩, h6⟩, h7⟩, h8⟩ := h
      have st : ∀ e ∈ [y, z], noStar e = true := by simp [h4, h5]
      have hm : M2 X x "get" ap y z cp := by
        refine ⟨base_of h2, ?_, h3, ?_⟩
        · rw [star_all st]; rfl
        · rw [star_cons h4, star_cons h5]; rfl
      refine PE.imp (pe_dget2 (by have := S.units; omega) (ho.v x h6) (hk.v y h7) (hd.v z h8) hm) ?_
      rintro σ H Q ⟨ρ, st1, η, w, sl, q⟩
      refine ⟨ρ, st1, η, w, sl, (Post.bind q).imp fun v ρ1 st2 H1 e1 w1 q1 V rv => ?_⟩
      obtain ⟨k1, q1⟩ := if_ok q1
      obtain ⟨pr, hpr⟩ := Option.isSome_iff_exists.mp k1
      obtain ⟨a, kvs, rfl, b1, _, _, _⟩ := asD_sd w1 rv hpr
      refine ⟨a, rfl, .inl ⟨kvs, b1⟩, ρ1, st2, η, w1, sl.ext e1, (Post.bind q1).imp fun u ρ2 st3 H2 e2 w2 q2 U ru => ?_⟩
      refine ⟨ρ2, st3, η, w2, (sl.ext e1).ext e2, (Post.bind q2).imp fun t ρ3 st4 H3 e3 w3 q3 T rt => ?_⟩
      have rv3 := (rv.ext e2).ext e3
      cases h1 : asD st4 v with
      | none => rw [h1] at q3; exact (show False from q3).elim
      | some pr3 =>
        cases h2 : keyOf u with
        | none => rw [h1, h2] at q3; exact (show False from q3).elim
        | some kk =>
          rw [h1, h2] at q3
          have q3 : Post _ _ _ _ (Res.ok ((look kk pr3.1 pr3.2).getD t) st4) _ := q3
          obtain ⟨a', kvs', e', c1, _, ⟨c2, _⟩, c3⟩ := asD_sd w3 rv3 h1
          cases e'
          obtain ⟨ev, _⟩ := key_sd (ru.ext e3) h2
          refine ⟨valV kvs' (tk kk), .inl ⟨kvs', tk kk, c1, ev, rfl⟩, ?_⟩
          cases hl : look kk pr3.1 pr3.2 with
          | none =>
            rw [look_none hl c2 c3]
            rw [hl] at q3
            exact q3 ρ3 H3 Ext.refl w3 _ rt
          | some zz =>
            obtain ⟨zv, hz, rz⟩ := look_sd hl c2 c3
            rw [hz]
            rw [hl] at q3
            exact q3 ρ3 H3 Ext.refl w3 _ rz
    · cases h
theorem kd_of (S : CxS g p n c W X) {i : Nat} {y : Str} (h : kdB p i y = true) : ∃ nm ks xs, p.gs[i]? = some (nm, .dct ks xs) ∧ y = tx nm := by
  unfold kdB at h
  split at h
  · rename_i nm ks xs e
    exact ⟨nm, ks, xs, e, of_decide_eq_true h⟩
  · cases h
theorem kdV_of {nm : Txt} {ks : List Txt} {xs : List Val} {v : Val} {r : Option Val} (h : kdV (some (nm, .dct ks xs)) v = some r) : ∃ k, keyOf v = some k ∧ look k ks xs = r := by
  unfold kdV at h
  split at h
  · rename_i k e1 e2
    cases e1
    exact ⟨_, e2, Option.some.inj h⟩
  · cases h
theorem snd_kin (S : CxS g p n c W X) {a : Ex} (yes : Bool) (i : Nat) (ha : Snd g p n c W X a) : Snd g p n c W X (.kin yes i a) := by
  have key : ∀ x op y py pos, (decide (op = if yes then CmpOp.In else CmpOp.NotIn) && glB c y && noDbg y && kdB p i y && (chk p a c).v x) = true →
      PE X (.Compare x [op] [.Name y py] pos) (SE g W (evA ⟨callN p n, p.gs⟩ (.kin yes i a)).v) ∧ PT X (.Compare x [op] [.Name y py] pos) (STt g W (evA ⟨callN p n, p.gs⟩ (.kin yes i a)).t) := fun x op y py pos h => by
    simp only [Bool.and_eq_true, decide_eq_true_eq] at h
    obtain ⟨⟨⟨⟨h1, h2⟩, h3⟩, h4⟩, h5⟩ := h
    obtain ⟨nm, ks, xs, hg, rfl⟩ := kd_of S h4
    obtain ⟨A, es, m, hm, D, fk⟩ := S.gd i nm ks xs hg
    obtain ⟨d1, _, _⟩ := dbg_of h3
    have pn : PE X (.Name (tx nm) py) (tC (.ref A)) := pe_glob (S.gl h2) hm rfl d1
    have rd : ∀ σ H Q, SE g W (evA ⟨callN p n, p.gs⟩ (.kin yes i a)).v σ H Q → tOp (fun x y H Q => ∃ (z : Str) (r : Option Value), x = .str z ∧ y = .ref A ∧ PySem.W.nsIn X.K A z = some r ∧ Q (.bl (if yes then r.isSome else !r.isSome)) H) (SE g W (evA ⟨callN p n, p.gs⟩ a).v) (tC (.ref A)) σ H Q := by
      rintro σ H Q ⟨ρ, st, η, w, sl, q⟩
      refine ⟨ρ, st, η, w, sl, (Post.bind q).imp fun v ρ1 st1 H1 e1 w1 q1 V rv => ?_⟩
      show ∃ (z : Str) (r : Option Value), V = L2.V.str z ∧ L2.V.ref A = L2.V.ref A ∧ _
      have q1 : Post _ _ _ _ (match kdV p.gs[i]? v with | some o => Res.ok (Val.bl (if yes then o.isSome else !o.isSome)) st1 | none => .no) _ := q1
      cases hk : kdV p.gs[i]? v with
      | none => rw [hk] at q1; exact (show False from q1).elim
      | some r =>
        rw [hk] at q1
        rw [hg] at hk
        obtain ⟨k, ek, el⟩ := kdV_of hk
        obtain ⟨ev, _⟩ := key_sd rv ek
        have q2 := q1 ρ1 H1 Ext.refl w1 _ rel_bl
        cases r with
        | none => exact ⟨tx k, none, ev, rfl, (fk k).2 el, q2⟩
        | some z =>
          obtain ⟨u, Z, hn, _, _⟩ := (fk k).1 z el
          exact ⟨tx k, some u, ev, rfl, hn, q2⟩
    cases yes with
    | true =>
      obtain rfl : op = CmpOp.In := h1
      exact ⟨PE.imp (pe_cmpR (op_in_kd D) (ha.v x h5) pn (noMarks rfl)) rd, PT.imp (pt_cmpR (op_in_kd D) (ha.v x h5) pn (noMarks rfl)) fun σ H Q q => rd σ H _ (stt_se q)⟩
    | false =>
      obtain rfl : op = CmpOp.NotIn := h1
      exact ⟨PE.imp (pe_cmpR (op_notIn_kd D) (ha.v x h5) pn (noMarks rfl)) rd, PT.imp (pt_cmpR (op_notIn_kd D) (ha.v x h5) pn (noMarks rfl)) fun σ H Q q => rd σ H _ (stt_se q)⟩
  have form : ∀ e, (chk p (.kin yes i a) c).v e = true → ∃ x op y py pos, e = .Compare x [op] [.Name y py] pos ∧ (decide (op = if yes then CmpOp.In else CmpOp.NotIn) && glB c y && noDbg y && kdB p i y && (chk p a c).v x) = true := fun e h => by
    simp only [chk, ckV] at h
    split at h
    · exact ⟨_, _, _, _, _, rfl, h⟩
    · cases h
  refine ⟨fun e h => ?_, fun e h => ?_, fun op vs pos h => (nomatch (show false = true from h)), fun es h => (nomatch (show false = true from h)), fun oe h => ?_, fun tg e h => ?_, fun es h => ?_⟩
  · obtain ⟨x, op, y, py, pos, rfl, h⟩ := form e h; exact (key x op y py pos h).1
  · obtain ⟨x, op, y, py, pos, rfl, h⟩ := form e h; exact (key x op y py pos h).2
  · cases oe with
    | none => exact nomatch (show false = true from h)
    | some e => obtain ⟨x, op, y, py, pos, rfl, h⟩ := form e h; exact po_plain (key x op y py pos h).1
  · obtain ⟨x, op, y, py, pos, rfl, h⟩ := form e h; exact pi_plain S (key x op y py pos h).1
  · exact (nomatch (show false = true from h))
theorem snd_kix (S : CxS g p n c W X) {a : Ex} (i : Nat) (ha : Snd g p n c W X a) : Snd g p n c W X (.kix i a) := by
  refine snd_plain S rfl rfl (fun e h => ?_) (fun e h => ?_)
  · split at h
    · rfl
    · cases h
  · split at h
    · rename_i y py x pos
      simp only [Bool.and_eq_true] at h
      obtain ⟨⟨⟨⟨h1, h2⟩, h3⟩, h4⟩, h5⟩ := h
      obtain ⟨nm, ks, xs, hg, rfl⟩ := kd_of S h4
      obtain ⟨A, es, m, hm, D, fk⟩ := S.gd i nm ks xs hg
      obtain ⟨d1, _, _⟩ := dbg_of h3
      have pn : PE X (.Name (tx nm) py) (tC (.ref A)) := pe_glob (S.gl h2) hm rfl d1
      refine PE.imp (pe_ix ix_kdict pn (ha.v x h5) (plainIx h1)) ?_
      rintro σ H Q ⟨ρ, st, η, w, sl, q⟩
      show SE g W _ σ H _
      refine ⟨ρ, st, η, w, sl, (Post.bind q).imp fun v ρ1 st1 H1 e1 w1 q1 V rv => ?_⟩
      have q1 : Post _ _ _ _ (match kdV p.gs[i]? v with | some o => opt o st1 | none => .no) _ := q1
      cases hk : kdV p.gs[i]? v with
      | none => rw [hk] at q1; exact (show False from q1).elim
      | some r =>
        rw [hk] at q1
        rw [hg] at hk
        obtain ⟨k, ek, el⟩ := kdV_of hk
        obtain ⟨ev, _⟩ := key_sd rv ek
        cases r with
        | none => exact (show False from q1).elim
        | some z =>
          obtain ⟨u, Z, hn, rz, rl⟩ := (fk k).1 z el
          exact ⟨A, tx k, Z, rfl, ev, ⟨es, m, u, D.at_, D.lit, hn, rz⟩, q1 ρ1 H1 Ext.refl w1 _ (rl ρ1 H1)⟩
    · cases h
end
end Mi
namespace Mi
open PySem L2

theorem wipe_get (σ : St) : ∀ (vs : List Nat) (i : Nat), (wipe σ vs)[i]? = if i ∈ vs ∧ i < σ.length then some none else σ[i]?
  | [], i => by simp [wipe]
  | v :: vs, i => by
    unfold wipe
    by_cases e : v = i
    · subst e
      by_cases hl : v < σ.length
      · rw [List.getElem?_set_self (by rw [wipe_length]; exact hl), if_pos ⟨List.mem_cons_self, hl⟩]
      · rw [if_neg (fun z => hl z.2), List.getElem?_eq_none (by rw [List.length_set, wipe_length]; omega), List.getElem?_eq_none (by omega)]
    · rw [List.getElem?_set_ne e, wipe_get σ vs i]
      have : (i ∈ v :: vs) ↔ i ∈ vs := by
        simp only [List.mem_cons]
        exact ⟨fun z => z.elim (fun q => absurd q.symm e) id, .inr⟩
      simp only [this]
theorem wipe_same {σ σ2 : St} {vs : List Nat} (h : ∀ i, i ∉ vs → σ2[i]? = (wipe σ vs)[i]?) (hl : σ2.length = (wipe σ vs).length) : wipe σ2 vs = wipe σ vs := by
  apply List.ext_getElem?
  intro i
  rw [wipe_length] at hl
  rw [wipe_get σ2 vs i, wipe_get σ vs i, hl]
  by_cases hi : i ∈ vs
  · by_cases h2 : i < σ.length
    · rw [if_pos ⟨hi, h2⟩, if_pos ⟨hi, h2⟩]
    · rw [if_neg (fun z => h2 z.2), if_neg (fun z => h2 z.2), List.getElem?_eq_none (by omega), List.getElem?_eq_none (by omega)]
  · rw [if_neg (fun z => hi z.1), h i hi, wipe_get σ vs i, if_neg (fun z => hi z.1)]

section
variable {g : Gd} {p : Prg} {n : Nat} {c : CC} {W : WX} {X : Cx}
abbrev W0 : WX := fun _ _ _ _ => False
theorem takes_no {Y : Cx} : Takes Y W0 := fun _ _ x => by
  obtain ⟨_, _, _, _, _, _, _, _, _, _, _, _, _, _, _, _, z⟩ := x
  exact z.elim
theorem CxS.blk (S : CxS g p n c W X) {scope : Scope} (hk : scope.kind = .function) (s : Shared) (H : Hp) (C : Addr) (cl : List (Str × Addr)) (fp : List Addr) :
    CxS g p n (blkCC c scope) W0 (X.blk s H scope (compEnvC scope cl C X.env) fp) where
  K := S.K
  N := S.N
  nd := S.nd
  sc := by
    show relS scope X.env.scope = relS scope c.sc
    rw [S.sc]
  fk := hk
  fn := fun x h => h
  calm := S.calm
  room := S.room
  tk := takes_no
  po := PassesOwn.never
  bl := S.bl
  top := fun h => nomatch (show false = true from h)
  lam := fun h => nomatch (show false = true from h)
  gs := S.gs
  gd := S.gd
  fns := S.fns
  cls := S.cls
  exc := fun i x h => ⟨(S.exc i x h).mg, (S.exc i x h).cl, (S.exc i x h).em, (S.exc i x h).kit, (S.exc i x h).kitV, (S.exc i x h).ec, (S.exc i x h).xal, (S.exc i x h).xa⟩
/-- what a comprehension ends with: a list that is locked, or one of the store -/
def lcEnd (nw : Bool) (xs : List Val) (st : Store) : Res Val := if nw then .ok (.loc st.length) (st ++ [.lst xs]) else .ok (.lst xs) st
/-- the turns of a list comprehension -/
theorem lc_turns (nw : Bool) (S : CxS g p n c W X) {E : Value → Option Addr → Hp → Prop} {tg : Tg} {vs : List Nat} {T : Env → Store → Res Bool} {El : Env → Store → Res Val} (hsub : ∀ i, tg.has i → i ∈ vs)
    {items : List Val} {m0 : Option Nat} {J : It} {ρ1 : List Addr} {H1 : Hp} {st1 : Store} {η : Env} {σ : St} {Q : VK} (w1 : Wd g ρ1 st1 H1) (sl : Slots g ρ1 H1 η σ) (wk : Wk g J m0 items ρ1 H1) {D : Addr} (hD : H1 D = none)
    (q : Post g E ρ1 H1 ((lcLoop (ckOf m0 items) tg (wipeE η vs) T El items [] st1).bind (lcEnd nw)) fun v ρ' _ H' => ∀ V, Rel g ρ' H' v V → Q V H') :
    ∃ Wi : Nat → Nat → Hp → Prop, (∃ m, Wi 0 m (upd H1 D (.lst []))) ∧ ∀ i m H, Wi i m H →
      (J.stop i H ∧ Sh Q (.ref D) H) ∨ (J.go i H ∧ ∃ Nx : Hp → Prop, (∀ H', Nx H' → ∃ m', m' < m ∧ Wi (i + 1) m' H') ∧ ∀ x H', J.yld i H x H' → TGR g tg x (wipe σ vs) H' fun σ2 H2 => wipe σ2 vs = wipe σ vs ∧ STt g W0 T σ2 H2 fun b H3 =>
        if b = true then SE g W0 El σ2 H3 fun y H4 => ∃ acc, H4 D = some (.lst acc) ∧ acc.length < sizeLine ∧ Nx (upd H4 D (.lst (acc ++ [y]))) else Nx H3) := by
  refine ⟨fun i m Hc => ∃ ρc stc acc us, m = items.length - i ∧ i ≤ items.length ∧ Ext ρ1 H1 ρc Hc ∧ Wd g ρc stc Hc ∧ D ∉ ρc ∧ Hc D = some (.lst us) ∧ Rels g ρc Hc acc us ∧ acc.length ≤ sizeLine ∧
      Post g E ρ1 H1 ((lcLoop (ckOf m0 items) tg (wipeE η vs) T El (items.drop i) acc stc).bind (lcEnd nw)) fun v ρ' _ H' => ∀ V, Rel g ρ' H' v V → Q V H', ?_, ?_⟩
  · exact ⟨items.length, ρ1, st1, [], [], by simp, Nat.zero_le _, Ext.new hD, w1.new hD, w1.fresh hD, upd_same, .nil, Nat.zero_le _, q⟩
  · rintro i m Hc ⟨ρc, stc, acc, us, rfl, hi, ec, wc, nD, hDc, rc, hl, qc⟩
    have nt : ∀ xs, Hc D ≠ some (.tup xs) := fun _ z => by rw [hDc] at z; cases z
    have nf : ∀ o u, Hc D ≠ some (.frz o u) := fun _ _ z => by rw [hDc] at z; cases z
    have outD : ∀ {ρ' : List Addr} {H' : Hp} {u : HO}, Ext ρ1 H1 ρ' H' → Ext ρ1 H1 ρ' (upd H' D u) := fun {ρ' H' u} e =>
      ⟨e.pre, fun b xs z => by rw [upd_ne (ne_of_none z hD)]; exact e.tup b xs z, fun b o u z => by rw [upd_ne (ne_of_none z hD)]; exact e.frz b o u z, fun b o z tb nb => by rw [upd_ne (ne_of_none z hD)]; exact e.keep b o z tb nb⟩
    by_cases hlt : i < items.length
    · rw [List.drop_eq_getElem_cons hlt] at qc
      simp only [lcLoop] at qc
      cases ck : ckOf m0 items stc with
      | false => rw [ck] at qc; exact (show False from qc).elim
      | true =>
        rw [ck] at qc
        simp only [if_true] at qc
        obtain ⟨wk1, _⟩ := wk ρc stc Hc ec wc ck
        obtain ⟨go, yl⟩ := wk1 i items[i] (List.getElem?_eq_getElem hlt)
        refine .inr ⟨go, fun H' => ∃ ρ' st' acc' us', i + 1 ≤ items.length ∧ Ext ρ1 H1 ρ' H' ∧ Wd g ρ' st' H' ∧ D ∉ ρ' ∧ H' D = some (.lst us') ∧ Rels g ρ' H' acc' us' ∧ acc'.length ≤ sizeLine ∧
            Post g E ρ1 H1 ((lcLoop (ckOf m0 items) tg (wipeE η vs) T El (items.drop (i + 1)) acc' st').bind (lcEnd nw)) fun v ρ' _ H' => ∀ V, Rel g ρ' H' v V → Q V H',
          fun H' ⟨ρ', st', acc', us', h1, h2⟩ => ⟨items.length - (i + 1), by omega, ρ', st', acc', us', rfl, h1, h2⟩, fun V H' y => ?_⟩
        obtain ⟨rfl, rv⟩ := yl V H' y
        cases ha : asgTg tg items[i] (wipeE η vs) with
        | none => rw [ha] at qc; exact (show False from qc).elim
        | some η1 =>
          rw [ha] at qc
          dsimp only at qc
          have slc : Slots g ρc H' (wipeE η vs) (wipe σ vs) := (sl.ext ec).wipe vs
          refine ⟨ρc, stc, wipeE η vs, items[i], wc, slc, rv, η1, ha, fun σ2 s2 eq2 len2 => ⟨wipe_same (fun k hk => eq2 k ?_) len2, ?_⟩⟩
          · exact fun z => hk (hsub k z)
          · refine ⟨ρc, stc, η1, wc, s2, ?_⟩
            cases hT : T η1 stc with
            | no => rw [hT] at qc; exact (show False from qc).elim
            | ex x st' => rw [hT] at qc; exact (show False from qc).elim
            | ok b st3 =>
              rw [hT] at qc
              simp only [Res.bindN] at qc
              intro ρ3 H3 e3 w3
              obtain ⟨hD3, nD3⟩ := e3.keep D _ hDc (fun _ z => by cases z) nD
              cases b with
              | false =>
                rw [if_neg (by decide)]
                exact ⟨ρ3, st3, acc, us, hlt, ec.trans e3, w3, nD3, hD3, rc.ext e3, hl, qc⟩
              | true =>
                rw [if_pos rfl]
                refine ⟨ρ3, st3, η1, w3, s2.ext e3, ?_⟩
                cases hE : El η1 st3 with
                | no => rw [hE] at qc; exact (show False from qc).elim
                | ex x st' => rw [hE] at qc; exact (show False from qc).elim
                | ok v st4 =>
                  rw [hE] at qc
                  dsimp only at qc
                  intro ρ4 H4 e4 w4 V4 r4
                  obtain ⟨hD4, nD4⟩ := e4.keep D _ hD3 (fun _ z => by cases z) nD3
                  by_cases hz : acc.length < sizeLine
                  · rw [if_pos hz] at qc
                    obtain ⟨w5, e5⟩ := Wd.beside (u := .lst (us ++ [V4])) w4 nD4 (fun _ z => by rw [hD4] at z; cases z) (fun _ _ z => by rw [hD4] at z; cases z) (fun _ z => by rw [hD4] at z; cases z) (fun _ z => by rw [hD4] at z; cases z)
                    refine ⟨us, hD4, by rw [← rc.length]; exact hz, ρ4, st4, acc ++ [v], us ++ [V4], hlt, outD ((ec.trans e3).trans e4), w5, nD4, upd_same, ?_, by rw [List.length_append]; exact hz, qc⟩
                    exact (((rc.ext e3).ext e4).append (.cons r4 .nil)).ext0 e5
                  · rw [if_neg hz] at qc; exact (show False from qc).elim
    · have hn : i = items.length := by omega
      subst hn
      rw [List.drop_length] at qc
      simp only [lcLoop] at qc
      cases ck : ckOf m0 items stc with
      | false => rw [ck] at qc; exact (show False from qc).elim
      | true =>
        rw [ck] at qc
        simp only [if_true] at qc
        obtain ⟨_, stop⟩ := wk ρc stc Hc ec wc ck
        cases nw with
        | true =>
        refine .inl ⟨stop _ (Nat.le_refl _), .inl ?_⟩
        have qc : Post g E ρ1 H1 (.ok (.loc stc.length) (stc ++ [.lst acc])) fun v ρ' _ H' => ∀ V, Rel g ρ' H' v V → Q V H' := qc
        have e0 : Ext0 ρc Hc (ρc ++ [D]) Hc := ⟨⟨[D], rfl⟩, fun _ _ h => h, fun _ _ _ h => h⟩
        refine qc (ρc ++ [D]) Hc ⟨?_, ec.tup, ec.frz, fun b o z tb nb => ?_⟩ ⟨by simp [wc.len], ?_, fun n ob a h1 h2 => ?_, fun q hq => ?tab⟩ _ ?_
        case tab =>
          obtain ⟨h0, ps, h1, h2, h3⟩ := wc.tb q hq
          have nm : ∀ {b : Addr}, b ∉ ρc → b ≠ D → b ∉ ρc ++ [D] := fun {b} k1 k2 => by
            simp only [List.mem_append, List.mem_singleton, not_or]
            exact ⟨k1, k2⟩
          refine ⟨nm h0 (fun z => by rw [z, hDc] at h1; cases h1), ps, h1, h2, fun pos cv hc => ?_⟩
          obtain ⟨cc, ee, n, hc'⟩ := h3 pos cv hc
          refine ⟨cc, ee, nm n fun z => ?_, hc'⟩
          rw [z, hDc] at hc'
          exact nomatch (Option.some.inj hc')
        · obtain ⟨m, hm⟩ := ec.pre
          exact ⟨m ++ [D], by rw [hm]; simp⟩
        · obtain ⟨k1, k2⟩ := ec.keep b o z tb nb
          refine ⟨k1, ?_⟩
          simp only [List.mem_append, List.mem_singleton, not_or]
          exact ⟨k2, ne_of_none z hD⟩
        · rw [List.nodup_append]
          refine ⟨wc.nd, by simp, fun a ha b hb e => ?_⟩
          have hb' : b = D := by simpa using hb
          subst hb'; subst e
          exact nD ha
        · by_cases hn : n < stc.length
          · rw [List.getElem?_append_left hn] at h1
            rw [List.getElem?_append_left (by rw [wc.len]; exact hn)] at h2
            exact (wc.ob n ob a h1 h2).ext0 e0 rfl
          · have hn1 : n = stc.length := by
              have := (List.getElem?_eq_some_iff.mp h1).1
              simp at this; omega
            subst hn1
            rw [List.getElem?_append_right (Nat.le_refl _)] at h1
            rw [List.getElem?_append_right (by rw [wc.len]; exact Nat.le_refl _)] at h2
            simp only [Nat.sub_self, List.getElem?_cons_zero, Option.some.injEq, wc.len] at h1 h2
            subst h1 h2
            exact ⟨us, hDc, hl, rc.ext0 e0⟩
        · simp only [Rel]
          exact ⟨D, rfl, by rw [← wc.len]; simp⟩
        | false =>
        have qc : Post g E ρ1 H1 (.ok (.lst acc) stc) fun v ρ' _ H' => ∀ V, Rel g ρ' H' v V → Q V H' := qc
        refine .inl ⟨stop _ (Nat.le_refl _), .inr ⟨D, .lst us, hDc, trivial, fun od => ?_⟩⟩
        obtain ⟨w5, e5⟩ := Wd.beside (u := .frz od (.lst us)) wc nD nt nf (fun _ z => by rw [hDc] at z; cases z) (fun _ z => by rw [hDc] at z; cases z)
        refine qc ρc _ (outD ec) w5 _ ?_
        simp only [Rel]
        exact ⟨D, us, rfl, .inl ⟨od, upd_same⟩, hl, rc.ext0 e5⟩
theorem lc_ck {ck : Store → Bool} {tg : Tg} {η : Env} {T : Env → Store → Res Bool} {El : Env → Store → Res Val} {xs acc : List Val} {st : Store} {E : Value → Option Addr → Hp → Prop} {ρ : List Addr} {H : Hp} {Q : List Val → List Addr → Store → Hp → Prop} (q : Post g E ρ H (lcLoop ck tg η T El xs acc st) Q) : ck st = true := by
  cases h : ck st with
  | true => rfl
  | false => cases xs <;> (simp only [lcLoop, h] at q; exact (show False from q).elim)
theorem own_ix {c : CC} (vs : List Nat) : (ownOf c vs).map (·.2) = vs := by
  unfold ownOf
  rw [List.map_map]
  exact List.map_id _
/-- the parts of a comprehension -/
structure LcP (p : Prg) (c : CC) (vs : List Nat) (tg : Tg) (it t el : Ex) (elt tgt iter : Expr) (ifs : List Expr) (scope : Scope) : Prop where
  ns : noSet iter = true
  fi : (chk p it c).i iter = true
  ok : blkC c.N c.sc scope (ownOf c vs) = true
  ft : tgOk (blkCC c scope) tg tgt = true
  sub : tgIn tg vs = true
  fe : (chk p el (blkCC c scope)).v elt = true
  fc : (match ifs with
    | [] => yesB t
    | [x] => (chk p t (blkCC c scope)).v x
    | _ => false) = true
theorem LcP.subs {vs : List Nat} {tg : Tg} {it t el : Ex} {elt tgt iter : Expr} {ifs : List Expr} {scope : Scope} (h : LcP p c vs tg it t el elt tgt iter ifs scope) : ∀ i, tg.has i → i ∈ vs := by
  intro i hi
  have := h.sub
  cases tg with
  | nm j =>
    have hi : i = j := hi
    subst hi
    simpa [tgIn] using this
  | tp js =>
    have hi : i ∈ js := hi
    have := List.all_eq_true.mp this i hi
    simpa using this
/-- a comprehension's reading -/
theorem lc_rd (nw : Bool) (S : CxS g p n c W X) {vs : List Nat} {tg : Tg} {it t el : Ex} {elt tgt iter : Expr} {ifs : List Expr} {scope : Scope} (h : LcP p c vs tg it t el elt tgt iter ifs scope) (hit : Snd g p n c W X it)
    (hb : ∀ (c' : CC) (X' : Cx), CxS g p n c' W0 X' → Snd g p n c' W0 X' t ∧ Snd g p n c' W0 X' el) {tt : TT} (htt : ∀ σ H Q, STt g W0 (evA ⟨callN p n, p.gs⟩ t).t σ H Q → tt σ H Q) :
    PI X tgt iter (SI g W (evA ⟨callN p n, p.gs⟩ it).i) ∧ BlkOk X.N X.env.scope scope (ownOf c vs) ∧ (∀ s H C cl fp, PG (X.blk s H scope (compEnvC scope cl C X.env) fp) tgt (TGR g tg)) ∧
    (∀ s H C cl fp, PE (X.blk s H scope (compEnvC scope cl C X.env) fp) elt (SE g W0 (evA ⟨callN p n, p.gs⟩ el).v)) ∧
    ∀ σ H Q, SE g W (evA ⟨callN p n, p.gs⟩ (if nw then .lcn vs tg it t el else .lc vs tg it t el)).v σ H Q → tLc (SI g W (evA ⟨callN p n, p.gs⟩ it).i) (TGR g tg) tt (SE g W0 (evA ⟨callN p n, p.gs⟩ el).v) ((ownOf c vs).map (·.2)) σ H (Sh Q) := by
  have ok : BlkOk c.N c.sc scope (ownOf c vs) := blkOk_by h.ok
  refine ⟨hit.i tgt iter h.fi, by rw [S.N, S.sc]; exact ok, fun s H C cl fp => tg_rd (S.blk ok.kind s H C cl fp) h.ft, fun s H C cl fp => (hb _ _ (S.blk ok.kind s H C cl fp)).2.v elt h.fe, ?_⟩
  have main : ∀ (nw : Bool) {F : Env → Store → Res Val}, (∀ η st, F η st = ((evA ⟨callN p n, p.gs⟩ it).i η st).bind fun p_ st => (lcLoop (ckOf p_.2 p_.1) tg (wipeE η vs) (evA ⟨callN p n, p.gs⟩ t).t (evA ⟨callN p n, p.gs⟩ el).v p_.1 [] st).bind (lcEnd nw)) →
      ∀ σ H Q, SE g W F σ H Q → tLc (SI g W (evA ⟨callN p n, p.gs⟩ it).i) (TGR g tg) tt (SE g W0 (evA ⟨callN p n, p.gs⟩ el).v) ((ownOf c vs).map (·.2)) σ H (Sh Q) := by
    rintro nw F hF σ H Q ⟨ρ, st, η, w, sl, q⟩
    rw [hF] at q
    rw [own_ix]
    refine ⟨ρ, st, η, w, sl, (Post.bind q).imp fun r ρ1 st1 H1 e1 w1 q1 => ⟨lc_ck (Post.bind q1), fun J wk D hD => ?_⟩⟩
    obtain ⟨Wi, a, b⟩ := lc_turns nw S h.subs w1 (sl.ext e1) wk hD q1
    refine ⟨Wi, a, fun i m H hw => ?_⟩
    rcases b i m H hw with z | ⟨z1, Nx, z2, z3⟩
    · exact .inl z
    · refine .inr ⟨z1, Nx, z2, fun x H' y => ?_⟩
      obtain ⟨ρ', st', η', v, k1, k2, k3, η2, k4, k5⟩ := z3 x H' y
      exact ⟨ρ', st', η', v, k1, k2, k3, η2, k4, fun σ' s1 s2 s3 => ⟨(k5 σ' s1 s2 s3).1, htt _ _ _ (k5 σ' s1 s2 s3).2⟩⟩
  cases nw
  case false => exact main false fun _ _ => rfl
  case true => exact main true fun _ _ => rfl
theorem lc_tests (S : CxS g p n c W X) {vs : List Nat} {tg : Tg} {it t el : Ex} {elt tgt iter : Expr} {ifs : List Expr} {scope : Scope} (h : LcP p c vs tg it t el elt tgt iter ifs scope)
    (hb : ∀ (c' : CC) (X' : Cx), CxS g p n c' W0 X' → Snd g p n c' W0 X' t ∧ Snd g p n c' W0 X' el) :
    ∃ tt : TT, (∀ s H C cl fp, PTs (X.blk s H scope (compEnvC scope cl C X.env) fp) ifs tt) ∧ ∀ σ H Q, STt g W0 (evA ⟨callN p n, p.gs⟩ t).t σ H Q → tt σ H Q := by
  have ok : BlkOk c.N c.sc scope (ownOf c vs) := blkOk_by h.ok
  have ht := h.fc
  split at ht
  · unfold yesB at ht
    split at ht
    · refine ⟨tYes, fun _ _ _ _ _ => pts_nil, ?_⟩
      rintro σ H Q ⟨ρ, st, η, w, sl, q⟩
      exact q ρ H Ext.refl w
    · cases ht
  · rename_i x
    exact ⟨_, fun s H C cl fp => pts_one ((hb _ _ (S.blk ok.kind s H C cl fp)).1.t x ht), fun _ _ _ q => q⟩
  · cases ht
theorem snd_lc (S : CxS g p n c W X) {vs : List Nat} {tg : Tg} {it t el : Ex} (hit : Snd g p n c W X it) (hb : ∀ (c' : CC) (X' : Cx), CxS g p n c' W0 X' → Snd g p n c' W0 X' t ∧ Snd g p n c' W0 X' el) : Snd g p n c W X (.lc vs tg it t el) := by
  refine snd_plain S rfl rfl (fun e h => ?_) (fun e h => ?_)
  · split at h
    · rfl
    · cases h
  · split at h
    · rename_i elt tgt iter ifs scope pos
      simp only [Bool.and_eq_true] at h
      obtain ⟨⟨⟨⟨⟨⟨h1, h2⟩, h3⟩, h4⟩, h5⟩, h6⟩, h7⟩ := h
      have L : LcP p c vs tg it t el elt tgt iter ifs scope := ⟨h1, h2, h3, h4, h5, h6, h7⟩
      obtain ⟨tt, a1, a2⟩ := lc_tests S L hb
      obtain ⟨b1, b2, b3, b4, b5⟩ := lc_rd false S L hit hb a2
      exact PE.imp (PE.sh (pe_lc S.calm (by rw [S.N]; exact S.nd) b1 b2 b3 a1 b4 (noFold h1))) b5
    · cases h
theorem snd_lcn (S : CxS g p n c W X) {vs : List Nat} {tg : Tg} {it t el : Ex} (hit : Snd g p n c W X it) (hb : ∀ (c' : CC) (X' : Cx), CxS g p n c' W0 X' → Snd g p n c' W0 X' t ∧ Snd g p n c' W0 X' el) : Snd g p n c W X (.lcn vs tg it t el) := by
  refine snd_plain S rfl rfl (fun e h => ?_) (fun e h => ?_)
  · split at h
    · rfl
    · cases h
  · split at h
    · rename_i elt tgt iter ifs scope pos
      simp only [Bool.and_eq_true] at h
      obtain ⟨⟨⟨⟨⟨⟨h1, h2⟩, h3⟩, h4⟩, h5⟩, h6⟩, h7⟩ := h
      have L : LcP p c vs tg it t el elt tgt iter ifs scope := ⟨h1, h2, h3, h4, h5, h6, h7⟩
      obtain ⟨tt, a1, a2⟩ := lc_tests S L hb
      obtain ⟨b1, b2, b3, b4, b5⟩ := lc_rd true S L hit hb a2
      exact PE.imp (PE.sh (pe_lc S.calm (by rw [S.N]; exact S.nd) b1 b2 b3 a1 b4 (noFold h1))) b5
    · cases h
/-- every expression -/
theorem snd : ∀ (ex : Ex) (c : CC) (W : WX) (X : Cx), CxS g p n c W X → Snd g p n c W X ex
  | .bad, _, _, _, S => snd_bad S
  | .var i, _, _, _, S => snd_var S i
  | .lit v, _, _, _, S => snd_lit S v
  | .glb i, _, _, _, S => snd_glb S i
  | .nil, _, _, _, S => snd_nil S
  | .cons a as, c, W, X, S => snd_cons S (snd a c W X S) (snd as c W X S)
  | .tup as, c, W, X, S => snd_tup S (snd as c W X S)
  | .lst as, c, W, X, S => snd_lst S (snd as c W X S)
  | .new as, c, W, X, S => snd_new S (snd as c W X S)
  | .dsp as, c, W, X, S => snd_dsp S (snd as c W X S)
  | .dnew as, c, W, X, S => snd_dnew S (snd as c W X S)
  | .bin o a b, c, W, X, S => snd_bin S o (snd a c W X S) (snd b c W X S)
  | .cmp o a b, c, W, X, S => snd_cmp S o (snd a c W X S) (snd b c W X S)
  | .isN y a, c, W, X, S => snd_isN S y (snd a c W X S)
  | .isB y bb a, c, W, X, S => snd_isB S y bb (snd a c W X S)
  | .neg a, c, W, X, S => snd_neg S (snd a c W X S)
  | .and a b, c, W, X, S => snd_and S (snd a c W X S) (snd b c W X S)
  | .or a b, c, W, X, S => snd_or S (snd a c W X S) (snd b c W X S)
  | .not a, c, W, X, S => snd_not S (snd a c W X S)
  | .ite t a b, c, W, X, S => snd_ite S (snd t c W X S) (snd a c W X S) (snd b c W X S)
  | .chain o1 o2 a b d, c, W, X, S => snd_chain S o1 o2 (snd a c W X S) (snd b c W X S) (snd d c W X S)
  | .ix a b, c, W, X, S => snd_ix S (snd a c W X S) (snd b c W X S)
  | .sl a lo hi, c, W, X, S => snd_sl S (snd a c W X S) (snd lo c W X S) (snd hi c W X S)
  | .fn f as, c, W, X, S => if h : f = .ssort then by
      subst h; exact snd_ssort S (snd as c W X S)
    else snd_fn S f h (snd as c W X S)
  | .lnew a, c, W, X, S => snd_lnew S (snd a c W X S)
  | .dcpy a, c, W, X, S => snd_dcpy S (snd a c W X S)
  | .sortK a, c, W, X, S => snd_sortK S (snd a c W X S)
  | .mt m o as, c, W, X, S => snd_mt S m (snd o c W X S) (snd as c W X S)
  | .dget o k d, c, W, X, S => snd_dget S (snd o c W X S) (snd k c W X S) (snd d c W X S)
  | .kin yes i a, c, W, X, S => snd_kin S yes i (snd a c W X S)
  | .kix i a, c, W, X, S => snd_kix S i (snd a c W X S)
  | .isi t a, c, W, X, S => snd_isi S t (snd a c W X S)
  | .call f as, c, W, X, S => snd_call S f (snd as c W X S)
  | .fld k f o, c, W, X, S => snd_fld S k f (snd o c W X S)
  | .meth k f m o as, c, W, X, S => snd_meth S k f m (snd o c W X S) (snd as c W X S)
  | .rng1 a, c, W, X, S => snd_rng1 S (snd a c W X S)
  | .rng2 a b, c, W, X, S => snd_rng2 S (snd a c W X S) (snd b c W X S)
  | .lc vs tg it t el, c, W, X, S => snd_lc S (snd it c W X S) fun c' X' S' => ⟨snd t c' W0 X' S', snd el c' W0 X' S'⟩
  | .lcn vs tg it t el, c, W, X, S => snd_lcn S (snd it c W X S) fun c' X' S' => ⟨snd t c' W0 X' S', snd el c' W0 X' S'⟩
end
end Mi
namespace Mi
open PySem L2

/-! except suites -/
/-- the exception's name and its slot -/
abbrev En := Option (Str × Nat)
def enB (c : CC) (en : En) (x : Str) : Bool := match en with
  | some q => decide (q.1 = x) && decide (c.N[q.2]? = some x) && visB c x && noDbg x
  | none => false
theorem sw_noneC {f : Expr} {as : List Expr} {ks : List Keyword} {cp : Pos} {t : Option Expr} {l : Nat} {env : PySem.Env} (_ : True = True) : swapsWith (.Call f as ks cp) t l env = pure false := rfl
def isIte : Sx → Bool
  | .ite _ _ _ => true
  | _ => false
mutual
def ckX (p : Prg) (c : CC) (en : En) : Sx → Expr → Bool
  | .lit v, e => (match e with
    | .Constant k _ _ => litB v k
    | _ => false)
  | .var i, e => (match e with
    | .Name x _ => decide (c.N[i]? = some x) && visB c x && noDbg x
    | _ => false)
  | .nil, _ => false
  | .cons _ _, _ => false
  | .tup as, e => (match e with
    | .Tuple xs _ _ => ckXs p c en as xs && decide (xs.length ≤ 1000)
    | _ => false)
  | .xf f, e => (match e with
    | .Attribute (.Name x _) n _ => enB c en x && decide (n = tx f) && p.xa.all (fun l => l.contains f)
    | _ => false)
  | .isx j cs, e => (match e with
    | .Call (.Name h _) [.Name x _, .Name y _] [] _ => bltB c h "isinstance" && enB c en x && glB c y && noDbg y && decide (p.em[j]? = some cs) && (match p.xs[j]? with | some z => decide (y = tx z) | none => false)
    | _ => false)
  | .isV, e => (match e with
    | .Call (.Name h _) [.Name x _, .Name y _] [] _ => bltB c h "isinstance" && enB c en x && bltB c y "ValueError"
    | _ => false)
  | .and a b, e => (match e with
    | .BoolOp .And [x, y] _ => ckX p c en a x && ckX p c en b y && (!isIte a && !isIte b)
    | _ => false)
  | .or a b, e => (match e with
    | .BoolOp .Or [x, y] _ => ckX p c en a x && ckX p c en b y && (!isIte a && !isIte b)
    | _ => false)
  | .not a, e => (match e with
    | .UnaryOp .Not x _ => ckX p c en a x && !isIte a
    | _ => false)
  | .ite t a b, e => (match e with
    | .IfExp x y z _ => ckX p c en t x && ckX p c en a y && ckX p c en b z && !isIte t
    | _ => false)
def ckXs (p : Prg) (c : CC) (en : En) : Sx → List Expr → Bool
  | .nil, es => es.isEmpty
  | .cons a as, es => (match es with
    | x :: xs => noStar x && ckX p c en a x && ckXs p c en as xs
    | [] => false)
  | _, _ => false
end
mutual
def ckS1 (p : Prg) (c : CC) (en : En) : Su → Stmt → Bool
  | .ret a, s => (match s with
    | .Return (some v) _ => ckX p c en a v
    | _ => false)
  | .app i a, s => (match s with
    | .Expr (.Call (.Attribute (.Name x _) n ap) [v] [] cp) _ => decide (c.N[i]? = some x) && visB c x && noDbg x && decide (n = ("append" : Str)) && (ap.endLine == cp.line) && noStar v && ckX p c en a v
    | _ => false)
  | .ite t a b, s => (match s with
    | .If x ss1 ss2 _ => ckX p c en t x && ckS p c en a ss1 && ckS p c en b ss2 && !isIte t
    | _ => false)
  | _, _ => false
def ckS (p : Prg) (c : CC) (en : En) : Su → List Stmt → Bool
  | .skip, ss => ss.isEmpty
  | .seq a b, ss => (match ss with
    | s :: ss => ckS1 p c en a s && ckS p c en b ss
    | [] => false)
  | _, _ => false
end
/-- where a suite stands -/
structure SuW (g : Gd) (p : Prg) (en : En) (a : Addr) (cls : Value) (d : Option Addr) (σ : St) (H : Hp) (ρ : List Addr) (st : Store) (η : Env) (e : Exn) : Prop where
  wd : Wd g ρ st H
  sl : Slots g ρ H η σ
  xr : XR g ρ H e cls d
  ec : ∃ x, p.xs[e.c]? = some x
  es : ∀ q, en = some q → σ[q.2]? = some (some (.ref a))
section
variable {g : Gd} {p : Prg} {n : Nat} {c : CC} {W : WX} {X : Cx} {en : En} {a : Addr} {oe : Obj} {cls : Value} {d : Option Addr} {pn : List (Addr × Obj)}
theorem XR.ext {ρ ρ' : List Addr} {H H' : Hp} {st : Store} {e : Exn} (x : XR g ρ H e cls d) (w : Wd g ρ st H) (ex : Ext ρ H ρ' H') : XR g ρ' H' e cls d := by
  obtain ⟨h1, h2⟩ := x
  refine ⟨h1, ?_⟩
  rcases h2 with h2 | ⟨b, kvs, rfl, h3, h4, h5⟩
  · exact .inl h2
  · refine .inr ⟨b, kvs, rfl, (ex.keep b _ h3 (fun _ z => by cases z) fun hm => ?_).1, h4, h5.ext ex⟩
    obtain ⟨m, hm, em⟩ := List.getElem_of_mem hm
    have hm' : m < st.length := by rw [← w.len]; exact hm
    have ob := w.ob m _ b (List.getElem?_eq_getElem hm') (by rw [List.getElem?_eq_getElem hm, em])
    cases ho : st[m] with
    | lst xs => rw [ho] at ob; obtain ⟨vs, k, _⟩ := ob; rw [h3] at k; cases k
    | dct ks xs => rw [ho] at ob; obtain ⟨vs, k, _⟩ := ob; rw [h3] at k; cases k
    | ins cc fs xs => rw [ho] at ob; obtain ⟨dx, vs, k, _⟩ := ob; rw [h3] at k; cases k
    | dead => rw [ho] at ob; obtain ⟨o, u, k⟩ := ob; rw [h3] at k; cases k
theorem SuW.ext {σ : St} {H H' : Hp} {ρ ρ' : List Addr} {st : Store} {η : Env} {e : Exn} (s : SuW g p en a cls d σ H ρ st η e) (ex : Ext ρ H ρ' H') (w : Wd g ρ' st H') : SuW g p en a cls d σ H' ρ' st η e :=
  ⟨w, s.sl.ext ex, s.xr.ext s.wd ex, s.ec, s.es⟩
def SX (g : Gd) (p : Prg) (en : En) (a : Addr) (cls : Value) (d : Option Addr) (F : Sx) : TE := fun σ H Q => ∃ ρ st η e, SuW g p en a cls d σ H ρ st η e ∧ ∃ v, sxV e η F = some v ∧ ∀ ρ' H' V, Ext ρ H ρ' H' → Wd g ρ' st H' → Rel g ρ' H' v V → Q V H'
def SXt (g : Gd) (p : Prg) (en : En) (a : Addr) (cls : Value) (d : Option Addr) (F : Sx) : TT := fun σ H Q => ∃ ρ st η e, SuW g p en a cls d σ H ρ st η e ∧ ∃ b, sxV e η F = some (.bl b) ∧ ∀ ρ' H', Ext ρ H ρ' H' → Wd g ρ' st H' → Q b H'
abbrev Xs (X : Cx) (a : Addr) (oe : Obj) (pn : List (Addr × Obj)) : Cx := X.suite a ((a, oe) :: pn)
/-- the exception's name -/
theorem pe_en (S : CxS g p n c W X) {x : Str} {pos : Pos} (h : enB c en x = true) : PE (Xs X a oe pn) (.Name x pos) (fun σ H Q => (∀ q, en = some q → σ[q.2]? = some (some (.ref a))) ∧ Q (.ref a) H) := by
  unfold enB at h
  split at h
  · rename_i q
    simp only [Bool.and_eq_true, decide_eq_true_eq] at h
    obtain ⟨⟨⟨rfl, h2⟩, h3⟩, h4⟩ := h
    obtain ⟨d1, d2, _⟩ := dbg_of h4
    refine PE.imp (pe_var (X := Xs X a oe pn) (i := q.2) (by show X.N[q.2]? = _; rw [S.N]; exact h2) (S.vis h3) d1 d2) fun σ H Q z => ?_
    exact ⟨_, z.1 q rfl, z.2⟩
  · cases h
theorem pe_false {Y : Cx} {e : Expr} {t : TE} (h : ∀ σ H Q, ¬ t σ H Q) : PE Y e t := ⟨fun _ _ σ H Q _ q => (h σ H Q q).elim⟩
theorem sxt_of {F : Sx} {σ : St} {H : Hp} {Q : Bool → Hp → Prop} (q : SXt g p en a cls d F σ H Q) : SX g p en a cls d F σ H fun x H1 => ∃ b, x = .bl b ∧ Q b H1 := by
  obtain ⟨ρ, st, η, e, w, b, hb, q⟩ := q
  refine ⟨ρ, st, η, e, w, _, hb, fun ρ' H' V ex w' rv => ?_⟩
  simp only [Rel] at rv
  exact ⟨b, rv, q ρ' H' ex w'⟩
mutual
theorem sx_v (S : CxS g p n c W X) (hz : Zc cls d oe) (hf : ∃ vs, oe.data = .fields vs) : ∀ (F : Sx) (e : Expr), ckX p c en F e = true → PE (Xs X a oe pn) e (SX g p en a cls d F)
  | .lit v, e, h => by
    simp only [ckX] at h
    split at h
    · rcases lit_rel h with ⟨rfl, rfl⟩ | ⟨b, rfl, rfl⟩ | ⟨b, rfl, rfl⟩ | ⟨b, rfl, rfl, hl⟩
      · refine PE.imp pe_non fun σ H Q q => ?_
        obtain ⟨ρ, st, η, e, w, v, hv, q⟩ := q
        simp only [sxV, Option.some.injEq] at hv
        subst hv
        exact q ρ H _ Ext.refl w.wd rel_non
      · refine PE.imp pe_bl fun σ H Q q => ?_
        obtain ⟨ρ, st, η, e, w, v, hv, q⟩ := q
        simp only [sxV, Option.some.injEq] at hv
        subst hv
        exact q ρ H _ Ext.refl w.wd rel_bl
      · refine PE.imp pe_int fun σ H Q q => ?_
        obtain ⟨ρ, st, η, e, w, v, hv, q⟩ := q
        simp only [sxV, Option.some.injEq] at hv
        subst hv
        exact q ρ H _ Ext.refl w.wd rel_int
      · refine PE.imp pe_str fun σ H Q q => ?_
        obtain ⟨ρ, st, η, e, w, v, hv, q⟩ := q
        simp only [sxV, Option.some.injEq] at hv
        subst hv
        exact q ρ H _ Ext.refl w.wd (rel_str hl)
    · cases h
  | .var i, e, h => by
    simp only [ckX] at h
    split at h
    · rename_i x pos
      simp only [Bool.and_eq_true, decide_eq_true_eq] at h
      obtain ⟨⟨h1, h2⟩, h3⟩ := h
      obtain ⟨d1, d2, _⟩ := dbg_of h3
      refine PE.imp (pe_var (X := Xs X a oe pn) (i := i) (by show X.N[i]? = _; rw [S.N]; exact h1) (S.vis h2) d1 d2) fun σ H Q q => ?_
      obtain ⟨ρ, st, η, e, w, v, hv, q⟩ := q
      simp only [sxV] at hv
      split at hv
      · rename_i v' hv'
        cases hv
        obtain ⟨V, hV, rv⟩ := w.sl.2 i _ hv'
        exact ⟨V, hV, q ρ H V Ext.refl w.wd rv⟩
      · cases hv
    · cases h
  | .nil, e, h => by simp [ckX] at h
  | .cons _ _, e, h => by simp [ckX] at h
  | .tup as, e, h => by
    simp only [ckX] at h
    split at h
    · rename_i xs k pos
      simp only [Bool.and_eq_true, decide_eq_true_eq] at h
      refine PE.imp (pe_tup (sx_l S hz hf as xs h.1)) fun σ H Q q => ?_
      obtain ⟨ρ, st, η, e, w, v, hv, q⟩ := q
      simp only [sxV] at hv
      cases hl : sxL e η as with
      | none => rw [hl] at hv; cases hv
      | some vs =>
        rw [hl] at hv
        cases hv
        refine ⟨ρ, st, η, e, w, vs, hl, fun ρ' H' Vs ex w' rs hlen => ?_⟩
        have hlen : vs.length ≤ sizeLine := by rw [hlen]; exact Nat.le_trans h.2 (by decide)
        refine ⟨by rw [← rs.length]; exact hlen, fun t ht => q ρ' _ _ (ex.trans (Ext.new ht)) (w'.new ht) (newT w' rs hlen ht)⟩
    · cases h
  | .xf f, e, h => by
    simp only [ckX] at h
    split at h
    · rename_i x px nm pos
      simp only [Bool.and_eq_true, decide_eq_true_eq] at h
      obtain ⟨⟨h1, rfl⟩, h3⟩ := h
      by_cases hD : ∃ i z D, p.xs[i]? = some z ∧ cls = g.xc i ∧ g.xc i = .ref D ∧ ∃ l, p.xa[i]? = some l
      · obtain ⟨i, z, D, hi, hc, hD, l, hl⟩ := hD
        have xo := S.exc i z hi
        have hno := xo.xa D l hD hl f (by
          have := List.all_eq_true.mp h3 l (List.mem_of_getElem? hl)
          simpa using this)
        refine PE.imp (pe_xf (X := X) (xo.ec D hD).2 hno hz hf (pe_en S h1) (by rfl)) fun σ H Q q => ?_
        obtain ⟨ρ, st, η, e, w, v, hv, q⟩ := q
        refine ⟨w.es, rfl, hc.trans hD, ?_⟩
        simp only [sxV] at hv
        rcases w.xr.2 with ⟨k1, k2, _⟩ | ⟨b, kvs, rfl, k3, ⟨_, k4⟩, k5⟩
        · rw [k1] at hv; simp [look] at hv
        · obtain ⟨y, l1, l2⟩ := look_fld hv k4 k5
          exact ⟨b, kvs, y, rfl, k3, l1, q ρ H y Ext.refl w.wd l2⟩
      · refine pe_false fun σ H Q q => ?_
        obtain ⟨ρ, st, η, e, w, v, hv, q⟩ := q
        obtain ⟨z, hz'⟩ := w.ec
        obtain ⟨D, hD', _⟩ := (S.exc e.c z hz').cl
        exact hD ⟨e.c, z, D, hz', w.xr.1, hD', (S.exc e.c z hz').xal⟩
    · cases h
  | .isx j cs, e, h => by
    simp only [ckX] at h
    split at h
    · rename_i hh ph x px y py pos
      simp only [Bool.and_eq_true, decide_eq_true_eq] at h
      obtain ⟨⟨⟨⟨⟨h1, h2⟩, h3⟩, h4⟩, h5⟩, h6⟩ := h
      split at h6
      · rename_i z hzj
        have ey := of_decide_eq_true h6
        subst ey
        obtain ⟨gx, mx, rfl⟩ := blt_of S h1 (by decide)
        obtain ⟨d1, _, _⟩ := dbg_of h4
        by_cases hD : d = none ∧ ∃ i x D, p.xs[i]? = some x ∧ cls = g.xc i ∧ g.xc i = .ref D
        · obtain ⟨rfl, i, x', D, hi, hc, hD⟩ := hD
          have xo := S.exc i x' hi
          have xj := S.exc j z hzj
          obtain ⟨Dj, hDj, _⟩ := xj.cl
          have hz2 : Zc (.ref D) none oe := by rw [← hD, ← hc]; exact hz
          refine PE.imp (pe_callB (X := Xs X a oe pn) (call_isE (X := X) (xo.ec D hD).1 hz2 hf) gx mx (by decide +kernel) (pa_cons (pe_en S h2) (pa_cons (pe_glob (X := Xs X a oe pn) (v := .ref Dj) (S.gl h3) (by show X.mg _ = _; rw [xj.mg, hDj]) rfl d1) pa_nil (by rfl)) (by rfl)) (by decide +kernel) (by decide +kernel) (by rfl) (by rfl)) fun σ H Q q => ?_
          obtain ⟨ρ, st, η, e, w, v, hv, q⟩ := q
          simp only [sxV] at hv
          split at hv
          · cases hv
            refine ⟨w.es, .ref Dj, .ref Dj, _, rfl, fun u ru => ru, ?_, q ρ H _ Ext.refl w.wd rel_bl⟩
            obtain ⟨x2, hx2⟩ := w.ec
            have := (S.exc e.c x2 hx2).kit j cs h5 (List.getElem?_eq_some_iff.mp hzj).1
            rw [← w.xr.1, hc, hD, hDj] at this
            exact this
          · cases hv
        · refine pe_false fun σ H Q q => ?_
          obtain ⟨ρ, st, η, e, w, v, hv, q⟩ := q
          simp only [sxV] at hv
          split at hv
          · rename_i ek
            obtain ⟨z', hz'⟩ := w.ec
            obtain ⟨D, hD', _⟩ := (S.exc e.c z' hz').cl
            refine hD ⟨?_, e.c, z', D, hz', w.xr.1, hD'⟩
            rcases w.xr.2 with ⟨_, _, k⟩ | ⟨b, kvs, rfl, k3, k4, k5⟩
            · exact k
            · exact absurd ek k4.1
          · cases hv
      · cases h6
    · cases h
  | .isV, e, h => by
    simp only [ckX] at h
    split at h
    · rename_i hh ph x px y py pos
      simp only [Bool.and_eq_true, decide_eq_true_eq] at h
      obtain ⟨⟨h1, h2⟩, h3⟩ := h
      obtain ⟨gx, mx, rfl⟩ := blt_of S h1 (by decide)
      obtain ⟨gy, my, rfl⟩ := blt_of S h3 (by decide)
      by_cases hD : d = none ∧ ∃ i x D, p.xs[i]? = some x ∧ cls = g.xc i ∧ g.xc i = .ref D
      · obtain ⟨rfl, i, x', D, hi, hc, hD⟩ := hD
        have xo := S.exc i x' hi
        have hz2 : Zc (.ref D) none oe := by rw [← hD, ← hc]; exact hz
        refine PE.imp (pe_callB (X := Xs X a oe pn) (call_isE (X := X) (xo.ec D hD).1 hz2 hf) gx mx (by decide +kernel) (pa_cons (pe_en S h2) (pa_cons (pe_bltn (X := Xs X a oe pn) (v := .ty "ValueError") (u := .type "ValueError") gy my (by decide +kernel) rfl) pa_nil (by rfl)) (by rfl)) (by decide +kernel) (by decide +kernel) (by rfl) (by rfl)) fun σ H Q q => ?_
        obtain ⟨ρ, st, η, e, w, v, hv, q⟩ := q
        simp only [sxV] at hv
        split at hv
        · cases hv
          refine ⟨w.es, .ty "ValueError", .type "ValueError", true, rfl, fun u ru => ru, ?_, q ρ H _ Ext.refl w.wd rel_bl⟩
          have := xo.kitV
          rw [hD] at this
          exact this
        · cases hv
      · refine pe_false fun σ H Q q => ?_
        obtain ⟨ρ, st, η, e, w, v, hv, q⟩ := q
        simp only [sxV] at hv
        split at hv
        · rename_i ek
          obtain ⟨z', hz'⟩ := w.ec
          obtain ⟨D, hD', _⟩ := (S.exc e.c z' hz').cl
          refine hD ⟨?_, e.c, z', D, hz', w.xr.1, hD'⟩
          rcases w.xr.2 with ⟨_, _, k⟩ | ⟨b, kvs, rfl, k3, k4, k5⟩
          · exact k
          · exact absurd ek k4.1
        · cases hv
    · cases h
  | .and x y, e, h => by
    simp only [ckX] at h
    split at h
    · simp only [Bool.and_eq_true] at h
      refine PE.imp (pe_and (sx_v S hz hf x _ h.1.1) (pe_one (sx_v S hz hf y _ h.1.2))) fun σ H Q q => ?_
      obtain ⟨ρ, st, η, e, w, v, hv, q⟩ := q
      simp only [sxV] at hv
      split at hv
      · rename_i hx
        refine ⟨ρ, st, η, e, w, _, hx, fun ρ' H' V ex w' rv => ?_⟩
        simp only [Rel] at rv
        refine ⟨true, rv, ?_⟩
        rw [if_pos rfl]
        split at hv
        · rename_i hy
          cases hv
          exact ⟨ρ', st, η, e, w.ext ex w', _, hy, fun ρ2 H2 V2 ex2 w2 rv2 => q ρ2 H2 V2 (ex.trans ex2) w2 rv2⟩
        · cases hv
      · rename_i hx
        cases hv
        refine ⟨ρ, st, η, e, w, _, hx, fun ρ' H' V ex w' rv => ?_⟩
        simp only [Rel] at rv
        refine ⟨false, rv, ?_⟩
        rw [if_neg (by decide)]
        exact q ρ' H' _ ex w' rel_bl
      · cases hv
    · cases h
  | .or x y, e, h => by
    simp only [ckX] at h
    split at h
    · simp only [Bool.and_eq_true] at h
      refine PE.imp (pe_or (sx_v S hz hf x _ h.1.1) (pe_one (sx_v S hz hf y _ h.1.2))) fun σ H Q q => ?_
      obtain ⟨ρ, st, η, e, w, v, hv, q⟩ := q
      simp only [sxV] at hv
      split at hv
      · rename_i hx
        refine ⟨ρ, st, η, e, w, _, hx, fun ρ' H' V ex w' rv => ?_⟩
        simp only [Rel] at rv
        refine ⟨false, rv, ?_⟩
        rw [if_neg (by decide)]
        split at hv
        · rename_i hy
          cases hv
          exact ⟨ρ', st, η, e, w.ext ex w', _, hy, fun ρ2 H2 V2 ex2 w2 rv2 => q ρ2 H2 V2 (ex.trans ex2) w2 rv2⟩
        · cases hv
      · rename_i hx
        cases hv
        refine ⟨ρ, st, η, e, w, _, hx, fun ρ' H' V ex w' rv => ?_⟩
        simp only [Rel] at rv
        refine ⟨true, rv, ?_⟩
        rw [if_pos rfl]
        exact q ρ' H' _ ex w' rel_bl
      · cases hv
    · cases h
  | .not x, e, h => by
    simp only [ckX] at h
    split at h
    · simp only [Bool.and_eq_true] at h
      refine PE.imp (pe_not (sx_v S hz hf x _ h.1)) fun σ H Q q => ?_
      obtain ⟨ρ, st, η, e, w, v, hv, q⟩ := q
      simp only [sxV] at hv
      split at hv
      · rename_i hx
        cases hv
        refine ⟨ρ, st, η, e, w, _, hx, fun ρ' H' V ex w' rv => ?_⟩
        simp only [Rel] at rv
        exact ⟨_, rv, q ρ' H' _ ex w' rel_bl⟩
      · cases hv
    · cases h
  | .ite t x y, e, h => by
    simp only [ckX] at h
    split at h
    · simp only [Bool.and_eq_true] at h
      refine PE.imp (pe_ifExp (sx_t S hz hf t _ h.1.1.1 (by simpa using h.2)) (sx_v S hz hf x _ h.1.1.2) (sx_v S hz hf y _ h.1.2)) fun σ H Q q => ?_
      obtain ⟨ρ, st, η, e, w, v, hv, q⟩ := q
      simp only [sxV] at hv
      split at hv
      · rename_i hx
        refine ⟨ρ, st, η, e, w, _, hx, fun ρ' H' ex w' => ?_⟩
        dsimp only
        rw [if_pos rfl]
        exact ⟨ρ', st, η, e, w.ext ex w', _, hv, fun ρ2 H2 V2 ex2 w2 rv2 => q ρ2 H2 V2 (ex.trans ex2) w2 rv2⟩
      · rename_i hx
        refine ⟨ρ, st, η, e, w, _, hx, fun ρ' H' ex w' => ?_⟩
        dsimp only
        rw [if_neg (by decide)]
        exact ⟨ρ', st, η, e, w.ext ex w', _, hv, fun ρ2 H2 V2 ex2 w2 rv2 => q ρ2 H2 V2 (ex.trans ex2) w2 rv2⟩
      · cases hv
    · cases h
theorem sx_t (S : CxS g p n c W X) (hz : Zc cls d oe) (hf : ∃ vs, oe.data = .fields vs) : ∀ (F : Sx) (e : Expr), ckX p c en F e = true → isIte F = false → PT (Xs X a oe pn) e (SXt g p en a cls d F)
  | .and x y, e, h, hi => by
    simp only [ckX] at h
    split at h
    · simp only [Bool.and_eq_true] at h
      refine PT.imp (PW.pt (pw_and (sx_t S hz hf x _ h.1.1 (by simpa using h.2.1)) (pw_and1 (sx_t S hz hf y _ h.1.2 (by simpa using h.2.2))))) fun σ H Q q => ?_
      obtain ⟨ρ, st, η, e, w, b, hv, q⟩ := q
      simp only [sxV] at hv
      split at hv
      · rename_i hx
        refine ⟨ρ, st, η, e, w, _, hx, fun ρ' H' ex w' => ?_⟩
        dsimp only
        rw [if_pos rfl]
        split at hv
        · rename_i hy
          cases hv
          exact ⟨ρ', st, η, e, w.ext ex w', _, hy, fun ρ2 H2 ex2 w2 => q ρ2 H2 (ex.trans ex2) w2⟩
        · cases hv
      · rename_i hx
        cases hv
        refine ⟨ρ, st, η, e, w, _, hx, fun ρ' H' ex w' => ?_⟩
        dsimp only
        rw [if_neg (by decide)]
        exact q ρ' H' ex w'
      · cases hv
    · cases h
  | .or x y, e, h, hi => by
    simp only [ckX] at h
    split at h
    · simp only [Bool.and_eq_true] at h
      refine PT.imp (PW.pt (pw_or (sx_t S hz hf x _ h.1.1 (by simpa using h.2.1)) (pw_or1 (sx_t S hz hf y _ h.1.2 (by simpa using h.2.2))))) fun σ H Q q => ?_
      obtain ⟨ρ, st, η, e, w, b, hv, q⟩ := q
      simp only [sxV] at hv
      split at hv
      · rename_i hx
        refine ⟨ρ, st, η, e, w, _, hx, fun ρ' H' ex w' => ?_⟩
        dsimp only
        rw [if_neg (by decide)]
        split at hv
        · rename_i hy
          cases hv
          exact ⟨ρ', st, η, e, w.ext ex w', _, hy, fun ρ2 H2 ex2 w2 => q ρ2 H2 (ex.trans ex2) w2⟩
        · cases hv
      · rename_i hx
        cases hv
        refine ⟨ρ, st, η, e, w, _, hx, fun ρ' H' ex w' => ?_⟩
        dsimp only
        rw [if_pos rfl]
        exact q ρ' H' ex w'
      · cases hv
    · cases h
  | .not x, e, h, hi => by
    simp only [ckX] at h
    split at h
    · simp only [Bool.and_eq_true] at h
      refine PT.imp (pt_not (sx_t S hz hf x _ h.1 (by simpa using h.2))) fun σ H Q q => ?_
      obtain ⟨ρ, st, η, e, w, b, hv, q⟩ := q
      simp only [sxV] at hv
      split at hv
      · rename_i hx
        cases hv
        exact ⟨ρ, st, η, e, w, _, hx, q⟩
      · cases hv
    · cases h
  | .lit v, e, h, hi => by
    refine PT.imp (pt_val (sx_v S hz hf (.lit v) e h) (isTrue_plain ?_)) fun σ H Q q => sxt_of q
    simp only [ckX] at h
    split at h
    · rfl
    · cases h
  | .var v, e, h, hi => by
    refine PT.imp (pt_val (sx_v S hz hf (.var v) e h) (isTrue_plain ?_)) fun σ H Q q => sxt_of q
    simp only [ckX] at h
    split at h
    · rfl
    · cases h
  | .isx j cs, e, h, hi => by
    refine PT.imp (pt_val (sx_v S hz hf (.isx j cs) e h) (isTrue_plain ?_)) fun σ H Q q => sxt_of q
    simp only [ckX] at h
    split at h
    · rfl
    · cases h
  | .isV, e, h, hi => by
    refine PT.imp (pt_val (sx_v S hz hf .isV e h) (isTrue_plain ?_)) fun σ H Q q => sxt_of q
    simp only [ckX] at h
    split at h
    · rfl
    · cases h
  | .xf f, e, h, hi => by
    refine PT.imp (pt_val (sx_v S hz hf (.xf f) e h) (isTrue_plain ?_)) fun σ H Q q => sxt_of q
    simp only [ckX] at h
    split at h
    · rfl
    · cases h
  | .tup as, e, h, hi => by
    refine PT.imp (pt_val (sx_v S hz hf (.tup as) e h) (isTrue_plain ?_)) fun σ H Q q => sxt_of q
    simp only [ckX] at h
    split at h
    · rfl
    · cases h
  | .ite t x y, e, h, hi => by
    cases hi
  | .nil, e, h, hi => by simp [ckX] at h
  | .cons _ _, e, h, hi => by simp [ckX] at h
theorem sx_l (S : CxS g p n c W X) (hz : Zc cls d oe) (hf : ∃ vs, oe.data = .fields vs) : ∀ (F : Sx) (es : List Expr), ckXs p c en F es = true → PA (Xs X a oe pn) es (fun σ H Q => ∃ ρ st η e, SuW g p en a cls d σ H ρ st η e ∧ ∃ vs, sxL e η F = some vs ∧ ∀ ρ' H' Vs, Ext ρ H ρ' H' → Wd g ρ' st H' → Rels g ρ' H' vs Vs → vs.length = es.length → Q Vs H')
  | .nil, es, h => by
    simp only [ckXs, List.isEmpty_iff] at h
    subst h
    refine PA.imp pa_nil fun σ H Q q => ?_
    obtain ⟨ρ, st, η, e, w, vs, hv, q⟩ := q
    simp only [sxL, Option.some.injEq] at hv
    subst hv
    exact q ρ H [] Ext.refl w.wd .nil rfl
  | .cons x as, es, h => by
    simp only [ckXs] at h
    split at h
    · rename_i y ys
      simp only [Bool.and_eq_true] at h
      refine PA.imp (pa_cons (sx_v S hz hf x y h.1.2) (sx_l S hz hf as ys h.2) (star_cons h.1.1)) fun σ H Q q => ?_
      obtain ⟨ρ, st, η, e, w, vs, hv, q⟩ := q
      simp only [sxL] at hv
      cases hx : sxV e η x with
      | none => rw [hx] at hv; cases hv
      | some v =>
        rw [hx] at hv
        simp only [Option.bind_some] at hv
        cases hl : sxL e η as with
        | none => rw [hl] at hv; cases hv
        | some us =>
          rw [hl] at hv
          cases hv
          refine ⟨ρ, st, η, e, w, v, hx, fun ρ' H' V ex w' rv => ⟨ρ', st, η, e, w.ext ex w', us, hl, fun ρ2 H2 Us ex2 w2 rs hlen => ?_⟩⟩
          exact q ρ2 H2 (V :: Us) (ex.trans ex2) w2 (.cons (rv.ext ex2) rs) (by simp [hlen])
    · cases h
  | .lit _, es, h | .var _, es, h | .tup _, es, h | .xf _, es, h | .isx _ _, es, h | .isV, es, h | .and _ _, es, h | .or _ _, es, h | .not _, es, h | .ite _ _ _, es, h => by simp [ckXs] at h
end
def PostU (g : Gd) (p : Prg) (en : En) (a : Addr) (cls : Value) (d : Option Addr) (e : Exn) (ρ : List Addr) (H : Hp) (f : Fl) (D : Ends) : Prop := match f with
  | .nx η st => ∀ ρ' H' σ', Ext ρ H ρ' H' → SuW g p en a cls d σ' H' ρ' st η e → D.nx σ' H'
  | .rt v st => ∀ ρ' H' V, Ext ρ H ρ' H' → Wd g ρ' st H' → Rel g ρ' H' v V → D.rt V H'
  | _ => False
theorem PostU.mono {e : Exn} {ρ ρ' : List Addr} {H H' : Hp} {f : Fl} {D : Ends} (h : PostU g p en a cls d e ρ H f D) (ex : Ext ρ H ρ' H') : PostU g p en a cls d e ρ' H' f D := by
  cases f with
  | nx η st => exact fun ρ2 H2 σ2 e2 => h ρ2 H2 σ2 (ex.trans e2)
  | rt v st => exact fun ρ2 H2 V e2 => h ρ2 H2 V (ex.trans e2)
  | _ => exact h
def SSu (g : Gd) (p : Prg) (en : En) (a : Addr) (cls : Value) (d : Option Addr) (su : Su) : TS := fun D σ H => ∃ ρ st η e, SuW g p en a cls d σ H ρ st η e ∧ PostU g p en a cls d e ρ H (suF e su η st) D
mutual
theorem su_1 (S : CxS g p n c W X) (hz : Zc cls d oe) (hf : ∃ vs, oe.data = .fields vs) : ∀ (su : Su) (s : Stmt), ckS1 p c en su s = true → PS (Xs X a oe pn) s (SSu g p en a cls d su)
  | .ret x, s, h => by
    simp only [ckS1] at h
    split at h
    · refine PS.imp (ps_ret (sx_v S hz hf x _ h)) fun D σ H q => ?_
      obtain ⟨ρ, st, η, e, w, q⟩ := q
      simp only [suF] at q
      cases hx : sxV e η x with
      | none => rw [hx] at q; exact (show False from q).elim
      | some v =>
        rw [hx] at q
        exact ⟨ρ, st, η, e, w, v, hx, fun ρ' H' V ex w' rv => q ρ' H' V ex w' rv⟩
    · cases h
  | .app i x, s, h => by
    simp only [ckS1] at h
    split at h
    · rename_i y py nm ap v cp pos
      simp only [Bool.and_eq_true, decide_eq_true_eq] at h
      obtain ⟨⟨⟨⟨⟨⟨h1, h2⟩, h3⟩, rfl⟩, h5⟩, h6⟩, h7⟩ := h
      have pv := sx_v (a := a) (oe := oe) (pn := pn) (en := en) S hz hf (.var i) (.Name y py) (by simp only [ckX, Bool.and_eq_true, decide_eq_true_eq]; exact ⟨⟨h1, h2⟩, h3⟩)
      have pa : PA (Xs X a oe pn) [v] _ := pa_cons (sx_v S hz hf x v h7) pa_nil (star_cons h6)
      refine PS.imp (ps_expr (pe_bm (X := Xs X a oe pn) (mo_plain .append) (mo_slot .append ⟨by decide, by decide⟩) (mo_type .append ⟨by decide, by decide⟩) (mt_all (X := Xs X a oe pn) S.K .append) pv pa (base_of rfl) (star_form (ys := [v]) (fun z hz' => by simp at hz'; rw [hz']; exact h6) (by simp)) h5 (star_cons h6) (by rfl)) (sw_noneC rfl)) fun D σ H q => ?_
      obtain ⟨ρ, st, η, e, w, q⟩ := q
      simp only [suF] at q
      cases ho : η[i]? with
      | none => rw [ho] at q; exact (show False from q).elim
      | some oo =>
        rw [ho] at q
        cases oo with
        | none => exact (show False from q).elim
        | some o =>
          cases hx : sxV e η x with
          | none => rw [hx] at q; exact (show False from q).elim
          | some u =>
            rw [hx] at q
            dsimp only at q
            cases hm : mtV .append o [u] st with
            | none => rw [hm] at q; exact (show False from q).elim
            | some r =>
              rw [hm] at q
              obtain ⟨z, st'⟩ := r
              have ok : mtOk .append o st = true := by
                simp only [mtV] at hm
                cases o with
                | loc m =>
                  cases hs : st[m]? with
                  | none => simp [hs] at hm
                  | some ob =>
                    cases ob with
                    | lst xs => simp only [mtOk, hs]
                    | _ => simp [hs] at hm
                | _ => simp at hm
              refine ⟨ρ, st, η, e, w, o, by simp only [sxV, ho], fun ρ1 H1 V ex1 w1 rv => ⟨mtOk_ty (X := Xs X a oe pn) S.K w1 rv ok ⟨by decide, by decide⟩, ρ1, st, η, e, w.ext ex1 w1, u, hx, fun ρ2 H2 U ex2 w2 ru => ?_⟩⟩
              refine ⟨ρ2, st, o, [u], z, st', w2, rv.ext ex2, .cons ru .nil, hm, fun ρ3 H3 ex3 w3 Z rz => ?_⟩
              have xx := w.ext (ex1.trans ex2) w2
              exact q ρ3 H3 σ ((ex1.trans ex2).trans ex3) ⟨w3, xx.sl.ext ex3, xx.xr.ext w2 ex3, w.ec, w.es⟩
    · cases h
  | .ite t x y, s, h => by
    simp only [ckS1] at h
    split at h
    · simp only [Bool.and_eq_true] at h
      refine PS.imp (ps_if (sx_t S hz hf t _ h.1.1.1 (by simpa using h.2)) (su_B S hz hf x _ h.1.1.2) (su_B S hz hf y _ h.1.2)) fun D σ H q => ?_
      obtain ⟨ρ, st, η, e, w, q⟩ := q
      simp only [suF] at q
      split at q
      · rename_i hx
        refine ⟨ρ, st, η, e, w, true, hx, fun ρ' H' ex w' => ?_⟩
        dsimp only
        rw [if_pos rfl]
        exact ⟨ρ', st, η, e, w.ext ex w', q.mono ex⟩
      · rename_i hx
        refine ⟨ρ, st, η, e, w, false, hx, fun ρ' H' ex w' => ?_⟩
        dsimp only
        rw [if_neg (by decide)]
        exact ⟨ρ', st, η, e, w.ext ex w', q.mono ex⟩
      · exact (show False from q).elim
    · cases h
  | .skip, s, h => by simp [ckS1] at h
  | .seq _ _, s, h => by simp [ckS1] at h
theorem su_B (S : CxS g p n c W X) (hz : Zc cls d oe) (hf : ∃ vs, oe.data = .fields vs) : ∀ (su : Su) (ss : List Stmt), ckS p c en su ss = true → PSs (Xs X a oe pn) ss (SSu g p en a cls d su)
  | .skip, ss, h => by
    simp only [ckS, List.isEmpty_iff] at h
    subst h
    refine PSs.imp pss_nil fun D σ H q => ?_
    obtain ⟨ρ, st, η, e, w, q⟩ := q
    exact q ρ H σ Ext.refl w
  | .seq x y, ss, h => by
    simp only [ckS] at h
    split at h
    · simp only [Bool.and_eq_true] at h
      refine PSs.imp (pss_cons (su_1 S hz hf x _ h.1) (su_B S hz hf y _ h.2)) fun D σ H q => ?_
      obtain ⟨ρ, st, η, e, w, q⟩ := q
      refine ⟨ρ, st, η, e, w, ?_⟩
      simp only [suF] at q
      cases hx : suF e x η st with
      | nx η2 st2 =>
        rw [hx] at q
        exact fun ρ' H' σ' ex w' => ⟨ρ', st2, η2, e, w', PostU.mono q ex⟩
      | rt v st2 => rw [hx] at q; exact q
      | bk _ _ => rw [hx] at q; exact (show False from q).elim
      | ct _ _ => rw [hx] at q; exact (show False from q).elim
      | xc _ _ _ => rw [hx] at q; exact (show False from q).elim
      | no => rw [hx] at q; exact (show False from q).elim
    · cases h
  | .ret _, ss, h => by simp [ckS] at h
  | .app _ _, ss, h => by simp [ckS] at h
  | .ite _ _ _, ss, h => by simp [ckS] at h
end
end
end Mi
namespace Mi
open PySem L2

def noTup : Expr → Bool
  | .Tuple _ _ _ => false | _ => true
def noComp2 : Expr → Bool
  | .SetComp _ _ _ _ => false | .DictComp _ _ _ _ _ => false | _ => true
def isFrz : Sm → Bool
  | .frz _ => true | _ => false
/-- x = [..] on one line: the store lies within -/
def swB (c : CC) (x : Str) (px : Pos) (v : Expr) : Bool := match v with
  | .ListComp _ _ scope pos => (match kindIn c x with | some .local => true | _ => false) && px.line == pos.line && !(scope.names.any fun (n, k) => n == x && (k == .local || k == .cell))
  | _ => false
def locB (c : CC) (x : Str) : Bool := match kindIn c x with
  | some .local => true | _ => false
def ckHd (p : Prg) (c : CC) (h : Hd) (e : ExceptHandler) : Bool := match e with
  | .ExceptHandler (some (.Name x _)) nm (b₀ :: suite) _ => glB c x && noDbg x && (match p.xs[h.j]? with | some z => decide (x = tx z) | none => false) && decide (p.em[h.j]? = some h.cs) && decide (h.k = p.xs.length) &&
      (match nm, h.slot with
        | none, none => ckS p c none h.su (b₀ :: suite)
        | some n, some i => decide (c.N[i]? = some n) && locB c n && noDbg n && ckS p c (some (n, i)) h.su (b₀ :: suite)
        | _, _ => false)
  | _ => false
def ckHs (p : Prg) (c : CC) : List Hd → List ExceptHandler → Bool
  | [], [] => true
  | h :: hs, e :: es => h.slot.isNone && ckHd p c h e && ckHs p c hs es
  | _, _ => false
mutual
def ck1 (p : Prg) : Sm → CC → Stmt → Bool
  | .bad, _ => fun _ => true
  | .skip, _ => fun s => match s with
    | .Pass _ => true
    | _ => false
  | .seq _ _, _ => fun _ => false
  | .frz _, _ => fun _ => false
  | .asg i e, c => fun s => match s with
    | .Assign [.Name x px] v _ => decide (c.N[i]? = some x) && tgB c x && noDbg x && (chk p e c).v v && noComp2 v
    | _ => false
  | .asgT tg e, c => fun s => match s with
    | .Assign [t] v _ => tgOk c tg t && noComp v && noTup v && noStar t && (chk p e c).v v
    | _ => false
  | .put o k e, c => fun s => match s with
    | .Assign [.Subscript x y _] v _ => noSlice y && (chk p o c).v x && (chk p k c).v y && (chk p e c).v v
    | _ => false
  | .expr e, c => fun s => match s with
    | .Expr v _ => noComp v && (chk p e c).v v
    | _ => false
  | .ret e, c => fun s => match s with
    | .Return (some v) _ => (chk p e c).v v
    | _ => false
  | .retN, _ => fun s => match s with
    | .Return none _ => true
    | _ => false
  | .ite t a b, c => fun s => match s with
    | .If x ss1 ss2 _ => (chk p t c).v x && ckB p a c ss1 && ckB p b c ss2
    | _ => false
  | .for_ tg it body, c => fun s => match s with
    | .For t x ss [] _ => noSet x && tgOk c tg t && (chk p it c).i x && ckB p body c ss
    | _ => false
  | .brk, _ => fun s => match s with
    | .Break _ => true
    | _ => false
  | .cont, _ => fun s => match s with
    | .Continue _ => true
    | _ => false
  | .setf k f o e, c => fun s => match s with
    | .Assign [.Attribute x n _] v _ => decide (n = tx f) && fldB p k f && (chk p o c).v x && (chk p e c).v v
    | _ => false
  | .while_ t b, c => fun s => match s with
    | .While x ss [] _ => (chk p t c).v x && ckB p b c ss
    | _ => false
  | .raise k, c => fun s => match s with
    | .Raise (some (.Call (.Name x _) [.Constant (.str _) _ _] [] _)) none _ => glB c x && noDbg x && (match p.xs[k]? with | some z => decide (x = tx z) | none => false)
    | _ => false
  | .try_ b hs, c => fun s => match s with
    | .Try ss hds [] [] _ => c.top && ckB p b c ss && (match hs, hds with
        | [h], [e] => ckHd p c h e
        | h :: h2 :: hs, e :: e2 :: es => ckHs p c (h :: h2 :: hs) (e :: e2 :: es)
        | _, _ => false)
    | _ => false
  | .mkI _ _, _ => fun _ => false
def ckB (p : Prg) : Sm → CC → List Stmt → Bool
  | .bad, _ => fun _ => true
  | .skip, _ => fun ss => ss.isEmpty
  | .seq a b, c => fun ss => match isFrz a with
    | true => ckB p b c ss
    | false => (match ss with
      | s :: ss => ck1 p a c s && ckB p b c ss
      | [] => false)
  | _, _ => fun _ => false
end

def PostS (g : Gd) (W : WX) (ρ : List Addr) (H : Hp) (f : Fl) (D : Ends) : Prop := match f with
  | .nx η st => ∀ ρ' H' σ', Ext ρ H ρ' H' → Wd g ρ' st H' → Slots g ρ' H' η σ' → D.nx σ' H'
  | .rt v st => ∀ ρ' H' V, Ext ρ H ρ' H' → Wd g ρ' st H' → Rel g ρ' H' v V → D.rt V H'
  | .bk η st => ∀ ρ' H' σ', Ext ρ H ρ' H' → Wd g ρ' st H' → Slots g ρ' H' η σ' → D.bk σ' H'
  | .ct η st => ∀ ρ' H' σ', Ext ρ H ρ' H' → Wd g ρ' st H' → Slots g ρ' H' η σ' → D.ct σ' H'
  | .xc e η st => ∀ ρ' H' σ' cls d, Ext ρ H ρ' H' → Wd g ρ' st H' → Slots g ρ' H' η σ' → XR g ρ' H' e cls d → W cls d σ' H'
  | .no => False
def STS (g : Gd) (W : WX) (F : Env → Store → Fl) : TS := fun D σ H => ∃ ρ st η, Wd g ρ st H ∧ Slots g ρ H η σ ∧ PostS g W ρ H (F η st) D

section
variable {g : Gd} {p : Prg} {n : Nat} {c : CC} {W : WX} {X : Cx}
theorem PostS.mono {ρ ρ' : List Addr} {H H' : Hp} {f : Fl} {D : Ends} (h : PostS g W ρ H f D) (e : Ext ρ H ρ' H') : PostS g W ρ' H' f D := by
  cases f with
  | nx η st => exact fun ρ2 H2 σ2 e2 => h ρ2 H2 σ2 (e.trans e2)
  | rt η st => exact fun ρ2 H2 σ2 e2 => h ρ2 H2 σ2 (e.trans e2)
  | bk η st => exact fun ρ2 H2 σ2 e2 => h ρ2 H2 σ2 (e.trans e2)
  | ct η st => exact fun ρ2 H2 σ2 e2 => h ρ2 H2 σ2 (e.trans e2)
  | xc x η st => exact fun ρ2 H2 σ2 cls d e2 => h ρ2 H2 σ2 cls d (e.trans e2)
  | no => exact h
/-- an expression ahead of a statement's end -/
theorem PostS.fl {α : Type} {ρ : List Addr} {H : Hp} {σ : St} {η : Env} {r : Res α} {k : α → Store → Fl} {D : Ends} (sl : Slots g ρ H η σ) (h : PostS g W ρ H (r.fl η k) D) :
    Post g (fun c d H' => W c d σ H') ρ H r fun v ρ' st' H' => PostS g W ρ' H' (k v st') D := by
  cases r with
  | ok v st => exact fun ρ2 H2 e2 w2 => PostS.mono h e2
  | ex x st => exact fun ρ2 H2 cls d e2 w2 x2 => h ρ2 H2 σ cls d e2 w2 (sl.ext e2) x2
  | no => exact h
theorem sw_none {v : Expr} {t : Option Expr} {l : Nat} {env : PySem.Env} (h : noComp v = true) : swapsWith v t l env = pure false := by
  cases v <;> first | rfl | cases h
theorem ss_none {t v : Expr} {env : PySem.Env} (h : noTup v = true) : swappedStores [t] v env = pure none := by
  cases v <;> first | (cases t <;> rfl) | cases h
/-- freezing is nothing that runs -/
theorem frz_lock {ρ : List Addr} {st : Store} {H : Hp} {pins : List (Addr × Obj)} {σ : St} {s : Shared} {m : Nat} {a : Addr} {u : HO} (I : Inv X pins σ H s) (w : Wd g ρ st H) (hp : ρ[m]? = some a) (hu : H a = some u) (mu : Mut (some u)) (nt : ∀ xs, u ≠ .tup xs) (nf : ∀ o z, u ≠ .frz o z) :
    ∃ od, Inv X pins σ (upd H a (.frz od u)) s ∧ Ext ρ H ρ (upd H a (.frz od u)) ∧ Wd g ρ (st.set m .dead) (upd H a (.frz od u)) := by
  obtain ⟨od, I2⟩ := I.lock hu mu
  have e : Ext ρ H ρ (upd H a (.frz od u)) := Ext.write (List.mem_of_getElem? hp) (fun xs z => by rw [hu] at z; exact nt xs (Option.some.inj z)) (fun o v z => by rw [hu] at z; exact nf o v (Option.some.inj z))
  exact ⟨od, I2, e, w.write hp e ⟨_, _, upd_same⟩⟩
mutual
theorem frzV_sd {pins : List (Addr × Obj)} {σ : St} {s : Shared} {ρ : List Addr} : ∀ (k : Nat) (v : Val) (V : L2.V) (st : Store) (H : Hp) (r : Val × Store), Inv X pins σ H s → Wd g ρ st H → Rel g ρ H v V → frzV k v st = some r →
    ∃ H', Inv X pins σ H' s ∧ Ext ρ H ρ H' ∧ Wd g ρ r.2 H' ∧ Rel g ρ H' r.1 V
  | 0, v, V, st, H, r, _, _, _, h => by simp [frzV] at h
  | k + 1, v, V, st, H, r, I, w, rv, h => by
    cases v with
    | loc m =>
      simp only [frzV] at h
      simp only [Rel] at rv
      obtain ⟨a, rfl, hp⟩ := rv
      split at h
      · rename_i xs ex
        obtain ⟨us, h1, h2, h3⟩ := w.ob m _ a ex hp
        obtain ⟨od, I2, e2, w2⟩ := frz_lock I w hp h1 trivial (fun _ z => nomatch z) (fun _ _ z => nomatch z)
        cases hl : frzL k xs (st.set m .dead) with
        | none => rw [hl] at h; cases h
        | some q =>
          rw [hl] at h
          cases h
          obtain ⟨H3, I3, e3, w3, r3⟩ := frzL_sd k xs us _ _ q I2 w2 (h3.ext e2) hl
          refine ⟨H3, I3, e2.trans e3, w3, ?_⟩
          simp only [Rel]
          exact ⟨a, us, rfl, .inl ⟨od, e3.frz _ _ _ upd_same⟩, by rw [r3.length, ← h3.length]; exact h2, r3⟩
      · rename_i ks xs ex
        obtain ⟨kvs, h1, h2, h3, h4⟩ := w.ob m _ a ex hp
        obtain ⟨od, I2, e2, w2⟩ := frz_lock I w hp h1 trivial (fun _ z => nomatch z) (fun _ _ z => nomatch z)
        cases hl : frzL k xs (st.set m .dead) with
        | none => rw [hl] at h; cases h
        | some q =>
          rw [hl] at h
          cases h
          obtain ⟨H3, I3, e3, w3, r3⟩ := frzL_sd k xs _ _ _ q I2 w2 (h4.ext e2) hl
          refine ⟨H3, I3, e2.trans e3, w3, ?_⟩
          simp only [Rel]
          exact ⟨a, kvs, rfl, ⟨od, e3.frz _ _ _ upd_same⟩, by rw [r3.length, ← h4.length]; exact h2, h3, r3⟩
      · cases h
    | tup xs =>
      simp only [frzV] at h
      simp only [Rel] at rv
      obtain ⟨a, us, rfl, h1, h2, h3⟩ := rv
      cases hl : frzL k xs st with
      | none => rw [hl] at h; cases h
      | some q =>
        rw [hl] at h
        cases h
        obtain ⟨H3, I3, e3, w3, r3⟩ := frzL_sd k xs us _ _ q I w h3 hl
        refine ⟨H3, I3, e3, w3, ?_⟩
        simp only [Rel]
        refine ⟨a, us, rfl, ?_, by rw [r3.length, ← h3.length]; exact h2, r3⟩
        rcases h1 with h1 | h1
        · exact .inl (e3.tup _ _ h1)
        · exact .inr h1
    | _ =>
      simp only [frzV, Option.some.injEq] at h
      subst h
      exact ⟨H, I, Ext.refl, w, rv⟩
theorem frzL_sd {pins : List (Addr × Obj)} {σ : St} {s : Shared} {ρ : List Addr} : ∀ (k : Nat) (vs : List Val) (Vs : List L2.V) (st : Store) (H : Hp) (r : List Val × Store), Inv X pins σ H s → Wd g ρ st H → Rels g ρ H vs Vs → frzL k vs st = some r →
    ∃ H', Inv X pins σ H' s ∧ Ext ρ H ρ H' ∧ Wd g ρ r.2 H' ∧ Rels g ρ H' r.1 Vs
  | 0, vs, Vs, st, H, r, _, _, _, h => by simp [frzL] at h
  | k + 1, [], Vs, st, H, r, I, w, rv, h => by
    simp only [frzL, Option.some.injEq] at h
    subst h
    exact ⟨H, I, Ext.refl, w, rv⟩
  | k + 1, x :: xs, Vs, st, H, r, I, w, rv, h => by
    obtain ⟨V, Vr, rfl, r1, r2⟩ := rv.cons_inv
    simp only [frzL] at h
    cases h1 : frzV k x st with
    | none => rw [h1] at h; cases h
    | some q =>
      rw [h1] at h
      simp only [Option.bind_some] at h
      cases h2 : frzL k xs q.2 with
      | none => rw [h2] at h; cases h
      | some q2 =>
        rw [h2] at h
        cases h
        obtain ⟨H2, I2, e2, w2, a1⟩ := frzV_sd k x V st H q I w r1 h1
        obtain ⟨H3, I3, e3, w3, a2⟩ := frzL_sd k xs Vr q.2 H2 q2 I2 w2 (r2.ext e2) h2
        exact ⟨H3, I3, e2.trans e3, w3, .cons (a1.ext e3) a2⟩
end
theorem Slots.same {ρ : List Addr} {H : Hp} {η : Env} {σ : St} {i : Nat} {v : Val} {V : L2.V} (s : Slots g ρ H η σ) (h : σ[i]? = some (some V)) (r : Rel g ρ H v V) : Slots g ρ H (η.set i (some v)) σ := by
  have := s.set i r
  have e : σ.set i (some V) = σ := by
    apply List.ext_getElem?
    intro j
    by_cases hj : i = j
    · subst hj
      rw [List.getElem?_set_self (List.getElem?_eq_some_iff.mp h).1, h]
    · rw [List.getElem?_set_ne hj]
  rwa [e] at this

/-! stores by values -/
theorem put_all (hK : X.K = g.K) (hu : X.A.units + 64 < cLine) : PSet X (fun o i v H Q => ∃ ρ st x y z st', Wd g ρ st H ∧ Rel g ρ H x o ∧ Rel g ρ H y i ∧ Rel g ρ H z v ∧ putV x y z st = some st' ∧ ∀ H', Ext ρ H ρ H' → Wd g ρ st' H' → Q H') := by
  intro pins s σ H o i v ov iv u Q I ro ri rv h
  obtain ⟨ρ, st, x, y, z, st', w, rx, ry, rz, hp, q⟩ := h
  unfold putV at hp
  split at hp
  · rename_i m
    simp only [Rel] at rx
    obtain ⟨a, rfl, ha⟩ := rx
    cases ro
    split at hp
    · rename_i ks xs ex
      cases hk : keyOf y with
      | none => rw [hk] at hp; cases hp
      | some k =>
        rw [hk] at hp
        simp only [Option.bind_some] at hp
        split at hp
        · rename_i hl
          cases hp
          obtain ⟨kvs, h1, h2, ⟨h3, h3'⟩, h4⟩ := w.ob m _ a ex ha
          obtain ⟨ek, lk⟩ := key_sd ry hk
          have e2 : Ext ρ H ρ (upd H a (.dK (putK kvs (tk k) v))) := Ext.write (List.mem_of_getElem? ha) (fun _ z => by rw [h1] at z; cases z) (fun _ _ z => by rw [h1] at z; cases z)
          have hkl : kvs.length < sizeLine := by
            have := h4.length
            rw [List.length_map] at this
            rw [← this]; exact hl
          refine d_setItem (by omega) I (.inl ⟨kvs, tk k, h1, ek, hkl, rfl⟩) ri rv fun s4 I4 => ⟨_, I4, q _ e2 (w.write ha e2 ?_)⟩
          obtain ⟨k1, k2⟩ := put_sd (k := k) rz h3 h4
          exact ⟨_, upd_same, Nat.le_trans (putD_len _ _ _ _) hl, ⟨k1, putD_ks h3' lk⟩, k2.ext e2⟩
        · cases hp
    · rename_i xs ex
      split at hp
      · rename_i i'
        cases hj : ixN xs.length i' with
        | none => rw [hj] at hp; cases hp
        | some j =>
          rw [hj] at hp
          cases hp
          obtain ⟨vs, h1, h2, h3⟩ := w.ob m _ a ex ha
          simp only [Rel] at ry
          subst ry
          have e2 : Ext ρ H ρ (upd H a (.lst (vs.set j v))) := Ext.write (List.mem_of_getElem? ha) (fun _ z => by rw [h1] at z; cases z) (fun _ _ z => by rw [h1] at z; cases z)
          refine set_list pins s σ H (.ref a) (.int i') v (.ref a) iv u Q I rfl ri rv ⟨a, vs, i', j, rfl, rfl, h1, by rw [← h3.length]; exact hj, q _ e2 (w.write ha e2 ?_)⟩
          exact ⟨_, upd_same, by rw [List.length_set]; exact h2, (h3.set j rz).ext e2⟩
      · cases hp
    · cases hp
  · cases hp
/-- PS-level locking behind a statement -/
def ShS (nx : St → Hp → Prop) : St → Hp → Prop := fun σ H => nx σ H ∨ ∃ d u, H d = some u ∧ Mut (some u) ∧ ∀ od, nx σ (upd H d (.frz od u))
theorem PS.sh {st : Stmt} {t : TS} (h : PS X st t) : PS X st (fun D σ H => t { D with nx := ShS D.nx } σ H) := ⟨fun pins s σ H D I q => thn (h.run pins s σ H _ I q) fun f s' z => by
  cases f with
  | next =>
    obtain ⟨σ', H', I', q'⟩ := z
    rcases q' with q' | ⟨d, u, hd, mu, q'⟩
    · exact ⟨σ', H', I', q'⟩
    · obtain ⟨od, I2⟩ := I'.lock hd mu
      exact ⟨σ', _, I2, q' od⟩
  | brk => exact z
  | cont => exact z
  | ret v => exact z⟩
end
end Mi
namespace Mi
open PySem L2

section
variable {g : Gd} {p : Prg} {n : Nat} {c : CC} {W : WX} {X : Cx}
noncomputable abbrev itp (p : Prg) (n : Nat) : Itp := ⟨callN p n, p.gs⟩
theorem ps_no {s : Stmt} {F : Env → Store → Fl} (h : ∀ η st, F η st = .no) : PS X s (STS g W F) := ⟨fun pins s σ H D I q => by
  obtain ⟨ρ, st, η, w, sl, q⟩ := q
  rw [h] at q
  exact (show False from q).elim⟩
theorem pss_no {s : List Stmt} {F : Env → Store → Fl} (h : ∀ η st, F η st = .no) : PSs X s (STS g W F) := ⟨fun pins s σ H D I q => by
  obtain ⟨ρ, st, η, w, sl, q⟩ := q
  rw [h] at q
  exact (show False from q).elim⟩
theorem s_asg (S : CxS g p n c W X) {i : Nat} {e : Ex} {x : Str} {px pos : Pos} {v : Expr} (h : ck1 p (.asg i e) c (.Assign [.Name x px] v pos) = true) : PS X (.Assign [.Name x px] v pos) (STS g W (exec (itp p n) (.asg i e))) := by
  have hs := snd e c W X S
  have h : (decide (c.N[i]? = some x) && tgB c x && noDbg x && (chk p e c).v v && noComp2 v) = true := h
  simp only [Bool.and_eq_true, decide_eq_true_eq] at h
  obtain ⟨⟨⟨⟨h1, h2⟩, h3⟩, h4⟩, h5⟩ := h
  obtain ⟨k1, k2⟩ := S.tg h2
  have nd : X.N.Nodup := by rw [S.N]; exact S.nd
  have hi : X.N[i]? = some x := by rw [S.N]; exact h1
  have rd : ∀ D σ H, STS g W (exec (itp p n) (.asg i e)) D σ H → SE g W (evA (itp p n) e).v σ H fun V H1 => D.nx (σ.set i (some V)) H1 := by
    rintro D σ H ⟨ρ, st, η, w, sl, q⟩
    exact ⟨ρ, st, η, w, sl, (PostS.fl sl q).imp fun v ρ1 st1 H1 e1 w1 q1 V rv => q1 ρ1 H1 _ Ext.refl w1 ((sl.ext e1).set i rv)⟩
  by_cases hn : noComp v = true
  · exact PS.imp (ps_set (i := i) nd hi k1 (hs.v v h4) (sw_none hn) k2) rd
  · cases v <;> first | exact absurd rfl hn | exact (nomatch (show false = true from h5)) | skip
    rename_i elt gens scope vpos
    by_cases hw : swB c x px (.ListComp elt gens scope vpos) = true
    · simp only [swB, Bool.and_eq_true, beq_iff_eq, Bool.not_eq_true'] at hw
      obtain ⟨⟨w1, w2⟩, w3⟩ := hw
      have hl : c.sc.names.lookup x = some .local := by
        unfold kindIn at w1
        split at w1
        · assumption
        · cases w1
      have hsw : swapsWith (.ListComp elt gens scope vpos) (some (.Name x px)) pos.line X.env = pure true :=
        sw_true (by rw [S.sc]; exact S.fk) (by rw [S.sc]; exact hl) (by simpa using w2) w3
      cases e with
      | lc vs tg it t el =>
        simp only [chk, ckV] at h4
        split at h4
        · rename_i elt tgt iter ifs scope pos' ee
          injection ee with e1 e2 e3 e4
          subst e1 e2 e3 e4
          simp only [Bool.and_eq_true] at h4
          obtain ⟨⟨⟨⟨⟨⟨a1, a2⟩, a3⟩, a4⟩, a5⟩, a6⟩, a7⟩ := h4
          have L : LcP p c vs tg it t el elt tgt iter ifs scope := ⟨a1, a2, a3, a4, a5, a6, a7⟩
          have hb : ∀ (c' : CC) (X' : Cx), CxS g p n c' W0 X' → Snd g p n c' W0 X' t ∧ Snd g p n c' W0 X' el := fun c' X' S' => ⟨snd t c' W0 X' S', snd el c' W0 X' S'⟩
          obtain ⟨tt, b1, b2⟩ := lc_tests S L hb
          obtain ⟨d1, d2, d3, d4, d5⟩ := lc_rd false S L (snd it c W X S) hb b2
          refine PS.imp (PS.sh (ps_setLc (i := i) S.calm nd hi (by rw [S.sc]; exact hl) hsw d1 d2 d3 b1 d4 (noFold a1))) fun D σ H q => ?_
          have := d5 σ H _ (rd D σ H q)
          exact this
        · cases h4
      | lcn vs tg it t el =>
        simp only [chk, ckV] at h4
        split at h4
        · rename_i elt tgt iter ifs scope pos' ee
          injection ee with e1 e2 e3 e4
          subst e1 e2 e3 e4
          simp only [Bool.and_eq_true] at h4
          obtain ⟨⟨⟨⟨⟨⟨a1, a2⟩, a3⟩, a4⟩, a5⟩, a6⟩, a7⟩ := h4
          have L : LcP p c vs tg it t el elt tgt iter ifs scope := ⟨a1, a2, a3, a4, a5, a6, a7⟩
          have hb : ∀ (c' : CC) (X' : Cx), CxS g p n c' W0 X' → Snd g p n c' W0 X' t ∧ Snd g p n c' W0 X' el := fun c' X' S' => ⟨snd t c' W0 X' S', snd el c' W0 X' S'⟩
          obtain ⟨tt, b1, b2⟩ := lc_tests S L hb
          obtain ⟨d1, d2, d3, d4, d5⟩ := lc_rd true S L (snd it c W X S) hb b2
          refine PS.imp (PS.sh (ps_setLc (i := i) S.calm nd hi (by rw [S.sc]; exact hl) hsw d1 d2 d3 b1 d4 (noFold a1))) fun D σ H q => ?_
          have := d5 σ H _ (rd D σ H q)
          exact this
        · cases h4
      | bad => exact ps_no fun _ _ => rfl
      | fn f as => cases f <;> exact (nomatch (show false = true from h4))
      | _ => exact (nomatch (show false = true from h4))
    · have hsw : swapsWith (.ListComp elt gens scope vpos) (some (.Name x px)) pos.line X.env = pure false := by
        unfold swapsWith
        have e2 : X.env.kindOf x = c.sc.names.lookup x := by
          show X.env.scope.names.lookup x = _
          rw [S.sc]
        have hz : (X.env.blockKind == .function && X.env.kindOf x == some .local && px.line == (Expr.ListComp elt gens scope vpos).pos.line && !(scope.names.any fun (n, k) => n == x && (k == .local || k == .cell))) = false := by
          cases hz : (X.env.blockKind == .function && X.env.kindOf x == some .local && px.line == (Expr.ListComp elt gens scope vpos).pos.line && !(scope.names.any fun (n, k) => n == x && (k == .local || k == .cell))) with
          | false => rfl
          | true =>
            exfalso
            apply hw
            simp only [Bool.and_eq_true] at hz
            obtain ⟨⟨⟨z1, z2⟩, z3⟩, z4⟩ := hz
            unfold swB kindIn
            rw [e2] at z2
            have z2' : c.sc.names.lookup x = some .local := by simpa using z2
            simp only [z2', Bool.and_eq_true]
            exact ⟨⟨trivial, z3⟩, z4⟩
        simp only [hz]
      exact PS.imp (ps_set (i := i) nd hi k1 (hs.v _ h4) hsw k2) rd
theorem s_for (S : CxS g p n c W X) {tg : Tg} {it : Ex} {body : Sm} {t x : Expr} {ss : List Stmt} {pos : Pos} (h1 : noSet x = true) (h2 : tgOk c tg t = true) (h3 : (chk p it c).i x = true) (hb : PSs X ss (STS g W (exec (itp p n) body))) :
    PS X (.For t x ss [] pos) (STS g W (exec (itp p n) (.for_ tg it body))) := by
  refine PS.imp (ps_for S.po S.calm ((snd it c W X S).i t x h3) (tg_rd S h2) hb (noFold h1)) ?_
  rintro D σ H ⟨ρ, st, η, w, sl, q⟩
  have ck0 : ∀ {ck : Store → Bool} {xs : List Val} {η : Env} {st : Store} {ρ : List Addr} {H : Hp}, PostS g W ρ H (forLoop ck tg (exec (itp p n) body) xs η st) D → ck st = true := fun {ck xs η st ρ H} q => by
    cases hk : ck st with
    | true => rfl
    | false => cases xs <;> (simp only [forLoop, hk] at q; exact (show False from q).elim)
  refine ⟨ρ, st, η, w, sl, (PostS.fl sl q).imp fun r ρ1 st1 H1 e1 w1 q1 => ⟨ck0 q1, fun J wk => ?_⟩⟩
  refine ⟨fun i m σc Hc => ∃ ρc stc ηc, m = r.1.length - i ∧ i ≤ r.1.length ∧ Ext ρ1 H1 ρc Hc ∧ Wd g ρc stc Hc ∧ Slots g ρc Hc ηc σc ∧ PostS g W ρc Hc (forLoop (ckOf r.2 r.1) tg (exec (itp p n) body) (r.1.drop i) ηc stc) D, ?_, ?_⟩
  · exact ⟨r.1.length, ρ1, st1, η, by simp, Nat.zero_le _, Ext.refl, w1, sl.ext e1, q1⟩
  · rintro i m σc Hc ⟨ρc, stc, ηc, rfl, hi, ec, wc, sc, qc⟩
    by_cases hlt : i < r.1.length
    · rw [List.drop_eq_getElem_cons hlt] at qc
      have ck := ck0 qc
      simp only [forLoop, ck, if_true] at qc
      obtain ⟨wk1, _⟩ := wk ρc stc Hc ec wc ck
      obtain ⟨go, yl⟩ := wk1 i r.1[i] (List.getElem?_eq_getElem hlt)
      refine .inr ⟨go, fun σ' H' => ∃ ρ' st' η', i + 1 ≤ r.1.length ∧ Ext ρ1 H1 ρ' H' ∧ Wd g ρ' st' H' ∧ Slots g ρ' H' η' σ' ∧ PostS g W ρ' H' (forLoop (ckOf r.2 r.1) tg (exec (itp p n) body) (r.1.drop (i + 1)) η' st') D,
        fun σ' H' ⟨ρ', st', η', a1, a2⟩ => ⟨r.1.length - (i + 1), by omega, ρ', st', η', rfl, a1, a2⟩, fun V H' y => ?_⟩
      obtain ⟨rfl, rv⟩ := yl V H' y
      cases ha : asgTg tg r.1[i] ηc with
      | none => rw [ha] at qc; exact (show False from qc).elim
      | some η1 =>
        rw [ha] at qc
        dsimp only at qc
        refine ⟨ρc, stc, ηc, r.1[i], wc, sc, rv, η1, ha, fun σ2 s2 _ _ => ⟨ρc, stc, η1, wc, s2, ?_⟩⟩
        cases hB : exec (itp p n) body η1 stc with
        | nx η2 st2 =>
          rw [hB] at qc
          exact fun ρ' H2 σ' e' w' s' => ⟨ρ', st2, η2, hlt, ec.trans e', w', s', PostS.mono qc e'⟩
        | ct η2 st2 =>
          rw [hB] at qc
          exact fun ρ' H2 σ' e' w' s' => ⟨ρ', st2, η2, hlt, ec.trans e', w', s', PostS.mono qc e'⟩
        | bk η2 st2 => rw [hB] at qc; exact qc
        | rt v st2 => rw [hB] at qc; exact qc
        | xc x η2 st2 => rw [hB] at qc; exact qc
        | no => rw [hB] at qc; exact (show False from qc).elim
    · have hn : i = r.1.length := by omega
      subst hn
      rw [List.drop_length] at qc
      have ck := ck0 qc
      simp only [forLoop, ck, if_true] at qc
      obtain ⟨_, stop⟩ := wk ρc stc Hc ec wc ck
      exact .inl ⟨stop _ (Nat.le_refl _), qc ρc Hc σc Ext.refl wc sc⟩
theorem CxS.tr (S : CxS g p n c W X) {W' : WX} {pn : List (Addr × Obj)} {xe : Value → Shared → Prop} (tk : Takes (X.tr pn xe) W') (po : PassesOwn (model X.prog X.w) X.A X.env xe) : CxS g p n c W' (X.tr pn xe) where
  K := S.K
  N := S.N
  nd := S.nd
  sc := S.sc
  fk := S.fk
  fn := S.fn
  calm := S.calm
  room := S.room
  tk := tk
  po := po
  bl := S.bl
  top := S.top
  lam := S.lam
  gs := S.gs
  gd := S.gd
  fns := S.fns
  cls := S.cls
  exc := fun i x h => ⟨(S.exc i x h).mg, (S.exc i x h).cl, (S.exc i x h).em, (S.exc i x h).kit, (S.exc i x h).kitV, (S.exc i x h).ec, (S.exc i x h).xal, (S.exc i x h).xa⟩
theorem Slots.hide {ρ : List Addr} {H : Hp} {η : Env} {σ : St} (s : Slots g ρ H η σ) (i : Nat) (x : Option V) : Slots g ρ H (η.set i none) (σ.set i x) := by
  refine ⟨by simp [s.1], fun j u hj => ?_⟩
  by_cases e : i = j
  · subst e
    by_cases hl : i < η.length
    · rw [List.getElem?_set_self hl] at hj
      cases hj
    · rw [List.getElem?_eq_none (by simpa using hl)] at hj
      cases hj
  · rw [List.getElem?_set_ne e] at hj ⊢
    exact s.2 j u hj
/-- an except clause's parts -/
theorem hd_parts (S : CxS g p n c W X) {h : Hd} {e : ExceptHandler} (ck : ckHd p c h e = true) : ∃ x np nm b₀ suite pos' z, e = .ExceptHandler (some (.Name x np)) nm (b₀ :: suite) pos' ∧ Names X x (g.xc h.j) ∧ p.xs[h.j]? = some z ∧ p.em[h.j]? = some h.cs ∧ h.k = p.xs.length ∧
    ((nm = none ∧ h.slot = none ∧ ckS p c none h.su (b₀ :: suite) = true) ∨ ∃ nn i, nm = some nn ∧ h.slot = some i ∧ c.N[i]? = some nn ∧ c.sc.names.lookup nn = some .local ∧ ckS p c (some (nn, i)) h.su (b₀ :: suite) = true) := by
  unfold ckHd at ck
  split at ck
  · rename_i x np nm b₀ suite pos'
    simp only [Bool.and_eq_true, decide_eq_true_eq] at ck
    obtain ⟨⟨⟨⟨⟨h1, h2⟩, h3⟩, h4⟩, h5⟩, h6⟩ := ck
    split at h3
    · rename_i z hz
      have ex := of_decide_eq_true h3
      subst ex
      obtain ⟨d1, _, _⟩ := dbg_of h2
      refine ⟨_, np, nm, b₀, suite, pos', z, rfl, ⟨S.gl h1, d1, .inl (S.exc h.j z hz).mg⟩, hz, h4, h5, ?_⟩
      split at h6
      · exact .inl ⟨rfl, by assumption, h6⟩
      · rename_i nn i hs
        simp only [Bool.and_eq_true, decide_eq_true_eq] at h6
        obtain ⟨⟨⟨k1, k2⟩, k3⟩, k4⟩ := h6
        refine .inr ⟨nn, i, rfl, hs, k1, ?_, k4⟩
        unfold locB kindIn at k2
        split at k2
        · assumption
        · cases k2
      · cases h6
    · cases h3
  · cases ck
theorem xc_in {e : Exn} (h : e.c < p.xs.length) : ∃ x, p.xs[e.c]? = some x := ⟨_, List.getElem?_eq_getElem h⟩
/-- an unnamed clause takes what it takes -/
theorem hnd_only (S : CxS g p n c W X) {h : Hd} {z : Txt} (hz : p.xs[h.j]? = some z) (hem : p.em[h.j]? = some h.cs) (hk : h.k = p.xs.length) (hsl : h.slot = none) {e : Exn} {η : Env} {st : Store} {r : List Hd} {D : Ends} {ρ : List Addr} {H : Hp} {Wo : WX} (q : PostS g W ρ H (hndF e η st (h :: r)) D)
    {σ : St} {cls : Value} {d : Option Addr} (w : Wd g ρ st H) (sl : Slots g ρ H η σ) (xr : XR g ρ H e cls d) (more : PostS g W ρ H (hndF e η st r) D → Wo cls d σ H) :
    ∃ b, PySem.W.exmOne X.K cls (g.xc h.j) = some b ∧ (b = true → ∀ a, H a = none → SSu g p none a cls d h.su D σ H) ∧ (b = false → Wo cls d σ H) := by
  simp only [hndF] at q
  split at q
  · rename_i hin
    obtain ⟨x, hx⟩ := xc_in (p := p) (e := e) (by rw [← hk]; exact hin.1)
    have em := (S.exc e.c x hx).em h.j h.cs hem (List.getElem?_eq_some_iff.mp hz).1
    rw [← xr.1] at em
    refine ⟨_, em, fun hb a ha => ?_, fun hb => ?_⟩
    · rw [if_pos (of_decide_eq_true hb), hsl] at q
      refine ⟨ρ, st, η, e, ⟨w, sl, xr, ⟨x, hx⟩, fun q h => by cases h⟩, ?_⟩
      simp only [unS] at q
      cases hs : suF e h.su η st with
      | nx η2 st2 =>
        rw [hs] at q
        exact fun ρ' H' σ' ex sw => q ρ' H' σ' ex sw.wd sw.sl
      | rt v st2 => rw [hs] at q; exact q
      | bk _ _ => rw [hs] at q; exact (show False from q).elim
      | ct _ _ => rw [hs] at q; exact (show False from q).elim
      | xc _ _ _ => rw [hs] at q; exact (show False from q).elim
      | no => rw [hs] at q; exact (show False from q).elim
    · rw [if_neg (of_decide_eq_false hb)] at q
      exact more q
  · exact (show False from q).elim
theorem hnd_as (S : CxS g p n c W X) {h : Hd} {z : Txt} {nn : Str} {i : Nat} (hz : p.xs[h.j]? = some z) (hem : p.em[h.j]? = some h.cs) (hk : h.k = p.xs.length) (hsl : h.slot = some i) {e : Exn} {η : Env} {st : Store} {D : Ends} {ρ : List Addr} {H : Hp} (q : PostS g W ρ H (hndF e η st [h]) D)
    {σ : St} {cls : Value} {d : Option Addr} (w : Wd g ρ st H) (sl : Slots g ρ H η σ) (xr : XR g ρ H e cls d) : wAs X.K (g.xc h.j) i (fun a cls d => SSu g p (some (nn, i)) a cls d h.su) W D cls d σ H := by
  simp only [hndF] at q
  split at q
  · rename_i hin
    obtain ⟨x, hx⟩ := xc_in (p := p) (e := e) (by rw [← hk]; exact hin.1)
    have em := (S.exc e.c x hx).em h.j h.cs hem (List.getElem?_eq_some_iff.mp hz).1
    rw [← xr.1] at em
    have hil : i < σ.length := by
      have := hin.2
      rw [hsl] at this
      rw [← sl.1]
      exact of_decide_eq_true this
    refine ⟨_, em, fun hb a ha => ?_, fun hb => ?_⟩
    · rw [if_pos (of_decide_eq_true hb), hsl] at q
      refine ⟨ρ, st, η.set i none, e, ⟨w, sl.hide i _, xr, ⟨x, hx⟩, fun q h => by cases h; exact List.getElem?_set_self hil⟩, ?_⟩
      simp only [unS] at q
      cases hs : suF e h.su (η.set i none) st with
      | nx η2 st2 =>
        rw [hs] at q
        exact fun ρ' H' σ' ex sw => q ρ' H' _ ex sw.wd (sw.sl.hide i none)
      | rt v st2 => rw [hs] at q; exact q
      | bk _ _ => rw [hs] at q; exact (show False from q).elim
      | ct _ _ => rw [hs] at q; exact (show False from q).elim
      | xc _ _ _ => rw [hs] at q; exact (show False from q).elim
      | no => rw [hs] at q; exact (show False from q).elim
    · rw [if_neg (of_decide_eq_false hb)] at q
      exact q ρ H σ cls d Ext.refl w sl xr
  · exact (show False from q).elim
/-- unnamed clauses, one after the other -/
theorem hds_ok (S : CxS g p n c W X) : ∀ {hs : List Hd} {es : List ExceptHandler}, ckHs p c hs es = true → ∃ l : List (Value × (Addr → Value → Option Addr → TS)), L2.HdsOk X es l ∧
    ∀ {e : Exn} {η : Env} {st : Store} {D : Ends} {ρ : List Addr} {H : Hp}, PostS g W ρ H (hndF e η st hs) D → ∀ {σ : St} {cls : Value} {d : Option Addr}, Wd g ρ st H → Slots g ρ H η σ → XR g ρ H e cls d → wMany X.K W D l cls d σ H
  | [], [], _ => ⟨[], .nil, fun {e η st D ρ H} q {σ cls d} w sl xr => q ρ H σ cls d Ext.refl w sl xr⟩
  | [], _ :: _, h => by simp [ckHs] at h
  | _ :: _, [], h => by simp [ckHs] at h
  | h :: hs, e :: es, ck => by
    simp only [ckHs, Bool.and_eq_true] at ck
    obtain ⟨⟨k1, k2⟩, k3⟩ := ck
    obtain ⟨l, h1, h2⟩ := hds_ok S k3
    obtain ⟨x, np, nm, b₀, suite, pos', z, rfl, hn, hz, hem, hk, hc⟩ := hd_parts S k2
    rcases hc with ⟨rfl, hsl, hsu⟩ | ⟨nn, i, _, hsl, _⟩
    · refine ⟨(g.xc h.j, fun a cls d => SSu g p none a cls d h.su) :: l, .cons hn (fun a oe cls d pn hz hf => su_B S hz hf h.su _ hsu) h1, fun {e η st D ρ H} q {σ cls d} w sl xr => ?_⟩
      exact hnd_only S hz hem hk hsl q w sl xr fun q2 => h2 q2 w sl xr
    · rw [hsl] at k1; cases k1
theorem setf_sd {k : Txt} {x : Val} {v : V} {ρ : List Addr} {H : Hp} (hx : Rel g ρ H x v) : ∀ {ks : List Txt} {xs : List Val} {kvs : List (Str × V)}, kvs.map (·.1) = ks.map tx → Rels g ρ H xs (kvs.map (·.2)) →
    (putF (tx k) v kvs).map (·.1) = (putI k x ks xs).1.map tx ∧ Rels g ρ H (putI k x ks xs).2 ((putF (tx k) v kvs).map (·.2))
  | [], xs, [], e, r => by
    have : putI k x [] xs = ([k], [x]) := by cases xs <;> rfl
    rw [this]
    exact ⟨rfl, .cons hx .nil⟩
  | [], xs, _ :: _, e, r => by simp at e
  | k' :: ks, xs, [], e, r => by simp at e
  | k' :: ks, xs, (kk, u) :: kvs, e, r => by
    simp only [List.map_cons, List.cons.injEq] at e
    obtain ⟨rfl, e⟩ := e
    cases xs with
    | nil => have := r.length; simp at this
    | cons y xs =>
      obtain ⟨v', rr, e2, r1, r2⟩ := r.cons_inv
      simp only [List.map_cons, List.cons.injEq] at e2
      obtain ⟨rfl, rfl⟩ := e2
      simp only [putF, putI]
      by_cases hk : k' = k
      · subst hk
        rw [if_pos rfl, if_pos rfl]
        exact ⟨by simp [e], .cons hx r2⟩
      · rw [if_neg (fun z => hk (tx_inj z)), if_neg hk]
        obtain ⟨i1, i2⟩ := setf_sd hx e r2
        exact ⟨by simp [i1], .cons r1 i2⟩
mutual
theorem snd1 : ∀ (sm : Sm) (c : CC) (W : WX) (X : Cx), CxS g p n c W X → ∀ s, ck1 p sm c s = true → PS X s (STS g W (exec (itp p n) sm))
  | .bad, c, W, X, S, s, h => ps_no fun _ _ => rfl
  | .skip, c, W, X, S, s, h => by
    simp only [ck1] at h
    split at h
    · refine PS.imp ps_pass ?_
      rintro D σ H ⟨ρ, st, η, w, sl, q⟩
      exact q ρ H σ Ext.refl w sl
    · cases h
  | .seq a b, c, W, X, S, s, h => (nomatch (show false = true from h))
  | .frz i, c, W, X, S, s, h => (nomatch (show false = true from h))
  | .asg i e, c, W, X, S, s, h => by
    have hh := h
    simp only [ck1] at hh
    split at hh
    · exact s_asg S h
    · cases hh
  | .asgT tg e, c, W, X, S, s, h => by
    simp only [ck1] at h
    split at h
    · rename_i t v pos
      simp only [Bool.and_eq_true] at h
      obtain ⟨⟨⟨⟨h1, h2⟩, h3⟩, h4⟩, h5⟩ := h
      have hs := snd e c W X S
      refine PS.imp (ps_asg (hs.v v h5) (tg_rd S h1) (sw_none h2) (ss_none h3) (by cases t <;> first | rfl | cases h4)) ?_
      rintro D σ H ⟨ρ, st, η, w, sl, q⟩
      refine ⟨ρ, st, η, w, sl, (PostS.fl sl q).imp fun v ρ1 st1 H1 e1 w1 q1 V rv => ?_⟩
      cases ha : asgTg tg v η with
      | none => rw [ha] at q1; exact (show False from q1).elim
      | some η1 =>
        rw [ha] at q1
        exact ⟨ρ1, st1, η, v, w1, sl.ext e1, rv, η1, ha, fun σ' s' _ _ => q1 ρ1 H1 σ' Ext.refl w1 s'⟩
    · cases h
  | .put o k e, c, W, X, S, s, h => by
    simp only [ck1] at h
    split at h
    · rename_i x y p2 v pos
      simp only [Bool.and_eq_true] at h
      obtain ⟨⟨⟨h1, h3⟩, h4⟩, h5⟩ := h
      refine PS.imp (ps_asg ((snd e c W X S).v v h5) (pg_sub ((snd o c W X S).v x h3) ((snd k c W X S).v y h4) (put_all S.K S.units) ?_) (show swapsWith v (some (.Subscript x y p2)) pos.line X.env = pure false by cases v <;> rfl) ?_ (by rfl)) ?_
      · cases y <;> first | (intro _; rfl) | cases h1
      · cases v <;> rfl
      · rintro D σ H ⟨ρ, st, η, w, sl, q⟩
        refine ⟨ρ, st, η, w, sl, (PostS.fl sl q).imp fun v ρ1 st1 H1 e1 w1 q1 V rv => ?_⟩
        refine ⟨ρ1, st1, η, w1, sl.ext e1, (PostS.fl (sl.ext e1) q1).imp fun o ρ2 st2 H2 e2 w2 q2 O ro => ?_⟩
        refine ⟨ρ2, st2, η, w2, (sl.ext e1).ext e2, (PostS.fl ((sl.ext e1).ext e2) q2).imp fun k ρ3 st3 H3 e3 w3 q3 K rk => ?_⟩
        cases hp : putV o k v st3 with
        | none => rw [hp] at q3; exact (show False from q3).elim
        | some st4 =>
          rw [hp] at q3
          exact ⟨ρ3, st3, o, k, v, st4, w3, ro.ext e3, rk, (rv.ext e2).ext e3, hp, fun H4 e4 w4 => q3 ρ3 H4 σ e4 w4 ((((sl.ext e1).ext e2).ext e3).ext e4)⟩
    · cases h
  | .expr e, c, W, X, S, s, h => by
    simp only [ck1] at h
    split at h
    · rename_i v pos
      simp only [Bool.and_eq_true] at h
      refine PS.imp (ps_expr ((snd e c W X S).v v h.2) (sw_none h.1)) ?_
      rintro D σ H ⟨ρ, st, η, w, sl, q⟩
      exact ⟨ρ, st, η, w, sl, (PostS.fl sl q).imp fun v ρ1 st1 H1 e1 w1 q1 V rv => q1 ρ1 H1 σ Ext.refl w1 (sl.ext e1)⟩
    · cases h
  | .ret e, c, W, X, S, s, h => by
    simp only [ck1] at h
    split at h
    · rename_i v pos
      refine PS.imp (ps_ret ((snd e c W X S).v v h)) ?_
      rintro D σ H ⟨ρ, st, η, w, sl, q⟩
      exact ⟨ρ, st, η, w, sl, (PostS.fl sl q).imp fun v ρ1 st1 H1 e1 w1 q1 V rv => q1 ρ1 H1 V Ext.refl w1 rv⟩
    · cases h
  | .retN, c, W, X, S, s, h => by
    simp only [ck1] at h
    split at h
    · refine PS.imp ps_retN ?_
      rintro D σ H ⟨ρ, st, η, w, sl, q⟩
      exact q ρ H .non Ext.refl w rel_non
    · cases h
  | .ite t a b, c, W, X, S, s, h => by
    simp only [ck1] at h
    split at h
    · rename_i x ss1 ss2 pos
      simp only [Bool.and_eq_true] at h
      refine PS.imp (ps_if ((snd t c W X S).t x h.1.1) (sndB a c W X S ss1 h.1.2) (sndB b c W X S ss2 h.2)) ?_
      rintro D σ H ⟨ρ, st, η, w, sl, q⟩
      refine ⟨ρ, st, η, w, sl, (PostS.fl sl q).imp fun k ρ1 st1 H1 e1 w1 q1 => ?_⟩
      cases k with
      | true => rw [if_pos rfl]; exact ⟨ρ1, st1, η, w1, sl.ext e1, q1⟩
      | false => rw [if_neg (by decide)]; exact ⟨ρ1, st1, η, w1, sl.ext e1, q1⟩
    · cases h
  | .for_ tg it body, c, W, X, S, s, h => by
    simp only [ck1] at h
    split at h
    · rename_i t x ss pos
      simp only [Bool.and_eq_true] at h
      obtain ⟨⟨⟨h1, h2⟩, h3⟩, h4⟩ := h
      exact s_for S h1 h2 h3 (sndB body c W X S ss h4)
    · cases h
  | .brk, c, W, X, S, s, h => by
    simp only [ck1] at h
    split at h
    · refine PS.imp ps_break ?_
      rintro D σ H ⟨ρ, st, η, w, sl, q⟩
      exact q ρ H σ Ext.refl w sl
    · cases h
  | .cont, c, W, X, S, s, h => by
    simp only [ck1] at h
    split at h
    · refine PS.imp ps_continue ?_
      rintro D σ H ⟨ρ, st, η, w, sl, q⟩
      exact q ρ H σ Ext.refl w sl
    · cases h
  | .setf k f o e, c, W, X, S, s, h => by
    simp only [ck1] at h
    split at h
    · rename_i x nm p2 v pos
      simp only [Bool.and_eq_true, decide_eq_true_eq] at h
      obtain ⟨⟨⟨rfl, h2⟩, h3⟩, h4⟩ := h
      unfold fldB at h2
      split at h2
      · rename_i q hq
        obtain ⟨cl, na⟩ := S.cls k q hq
        have hf : f ∈ q.2 := by simpa using h2
        refine PS.imp (ps_fld ((snd o c W X S).v x h3) ((snd e c W X S).v v h4) (show swapsWith v (some (.Attribute x (tx f) p2)) pos.line X.env = pure false by cases v <;> rfl)) ?_
        rintro D σ H ⟨ρ, st, η, w, sl, q⟩
        refine ⟨ρ, st, η, w, sl, (PostS.fl sl q).imp fun v ρ1 st1 H1 e1 w1 q1 V rv => ?_⟩
        refine ⟨ρ1, st1, η, w1, sl.ext e1, (PostS.fl (sl.ext e1) q1).imp fun o ρ2 st2 H2 e2 w2 q2 O ro => ?_⟩
        cases hp : setF k f o v st2 with
        | none => rw [hp] at q2; exact (show False from q2).elim
        | some st3 =>
          rw [hp] at q2
          cases o with
          | loc m =>
            simp only [setF] at hp
            cases ex : st2[m]? with
            | none => rw [ex] at hp; cases hp
            | some ob =>
              rw [ex] at hp
              cases ob with
              | ins c' ks xs =>
                dsimp only at hp
                split at hp
                · rename_i hc
                  obtain ⟨rfl, hlen⟩ := hc
                  cases hp
                  simp only [Rel] at ro
                  obtain ⟨a, rfl, ha⟩ := ro
                  obtain ⟨dx, kvs, k1, k2, k3⟩ := w2.ob m _ a ex ha
                  have hkl : kvs.length = ks.length := by have := congrArg List.length k2; simpa using this
                  have e3 : Ext ρ2 H2 ρ2 (upd H2 a (.ins (g.ca c') dx (putF (tx f) V kvs))) := Ext.write (List.mem_of_getElem? ha) (fun _ z => by rw [k1] at z; cases z) (fun _ _ z => by rw [k1] at z; cases z)
                  refine ⟨a, _, dx, kvs, rfl, k1, cl, na f hf, by omega, q2 ρ2 _ σ e3 (w2.write ha e3 ?_) (((sl.ext e1).ext e2).ext e3)⟩
                  obtain ⟨j1, j2⟩ := setf_sd (k := f) ((rv.ext e2).ext e3) k2 (k3.ext e3)
                  exact ⟨dx, _, upd_same, j1, j2⟩
                · cases hp
              | _ => cases hp
          | _ => cases hp
      · cases h2
    · cases h
  | .while_ t b, c, W, X, S, s, h => by
    simp only [ck1] at h
    split at h
    · rename_i x ss pos
      simp only [Bool.and_eq_true] at h
      refine PS.imp (ps_while S.po ((snd t c W X S).t x h.1) (sndB b c W X S ss h.2)) ?_
      rintro D σ H ⟨ρ, st, η, w, sl, q⟩
      refine ⟨fun m σc Hc => ∃ ρc stc ηc, Wd g ρc stc Hc ∧ Slots g ρc Hc ηc σc ∧ PostS g W ρc Hc (whl (evA (itp p n) t).t (exec (itp p n) b) m ηc stc) D, ⟨100000, ρ, st, η, w, sl, q⟩, ?_⟩
      rintro m σc Hc ⟨ρc, stc, ηc, wc, sc, qc⟩
      cases m with
      | zero => exact (show False from qc).elim
      | succ m =>
        refine ⟨ρc, stc, ηc, wc, sc, (PostS.fl sc qc).imp fun k ρ1 st1 H1 e1 w1 q1 => ?_⟩
        cases k with
        | false =>
          rw [if_neg (by decide)]
          exact q1 ρ1 H1 σc Ext.refl w1 (sc.ext e1)
        | true =>
          rw [if_pos rfl]
          refine ⟨fun σ' H' => ∃ ρ' st' η', Wd g ρ' st' H' ∧ Slots g ρ' H' η' σ' ∧ PostS g W ρ' H' (whl (evA (itp p n) t).t (exec (itp p n) b) m η' st') D, fun σ' H' z => ⟨m, Nat.lt_succ_self _, z⟩, ρ1, st1, ηc, w1, sc.ext e1, ?_⟩
          dsimp only at q1
          cases hB : exec (itp p n) b ηc st1 with
          | nx η2 st2 => rw [hB] at q1; exact fun ρ' H' σ' e' w' s' => ⟨ρ', st2, η2, w', s', PostS.mono q1 e'⟩
          | ct η2 st2 => rw [hB] at q1; exact fun ρ' H' σ' e' w' s' => ⟨ρ', st2, η2, w', s', PostS.mono q1 e'⟩
          | bk η2 st2 => rw [hB] at q1; exact q1
          | rt v st2 => rw [hB] at q1; exact q1
          | xc x η2 st2 => rw [hB] at q1; exact q1
          | no => rw [hB] at q1; exact (show False from q1).elim
    · cases h
  | .raise k, c, W, X, S, s, h => by
    simp only [ck1] at h
    split at h
    · rename_i x px m j p2 p3 pos
      simp only [Bool.and_eq_true] at h
      obtain ⟨⟨h1, h2⟩, h3⟩ := h
      split at h3
      · rename_i z hz
        have ex := of_decide_eq_true h3
        subst ex
        obtain ⟨d1, _, _⟩ := dbg_of h2
        have xo := S.exc k z hz
        obtain ⟨C, hC, k1, k2, k3⟩ := xo.cl
        refine PS.imp (ps_raise S.calm S.tk (pmk_own PySem.F.excBase_ValueError k1 (by rw [xo.mg, hC]) k2 k3 (S.gl h1) d1)) ?_
        rintro D σ H ⟨ρ, st, η, w, sl, q⟩
        refine q ρ H σ (.ref C) none Ext.refl w sl ⟨hC.symm, .inl ⟨rfl, rfl, rfl⟩⟩
      · cases h3
    · cases h
  | .try_ b hs, c, W, X, S, s, h => by
    simp only [ck1] at h
    split at h
    · rename_i ss hds pos
      simp only [Bool.and_eq_true] at h
      obtain ⟨⟨h1, h2⟩, h3⟩ := h
      obtain ⟨t1, t2⟩ := S.top h1
      have body : ∀ (W' : WX) (pn : List (Addr × Obj)) (xe : Value → Shared → Prop), Takes (X.tr pn xe) W' → PassesOwn (model X.prog X.w) X.A X.env xe → PSs (X.tr pn xe) ss (STS g W' (exec (itp p n) b)) := fun W' pn xe tk po => sndB b c W' (X.tr pn xe) (S.tr tk po) ss h2
      have rd : ∀ {W' : WX} {D : Ends} {σ : St} {H : Hp}, STS g W (exec (itp p n) (.try_ b hs)) D σ H → (∀ {e : Exn} {η : Env} {st : Store} {ρ : List Addr} {H : Hp}, PostS g W ρ H (hndF e η st hs) D → ∀ {σ : St} {cls : Value} {d : Option Addr}, Wd g ρ st H → Slots g ρ H η σ → XR g ρ H e cls d → W' cls d σ H) → STS g W' (exec (itp p n) b) D σ H := fun {W' D σ H} q k => by
        obtain ⟨ρ, st, η, w, sl, q⟩ := q
        refine ⟨ρ, st, η, w, sl, ?_⟩
        simp only [exec] at q
        cases hB : exec (itp p n) b η st with
        | nx η2 st2 => rw [hB] at q; exact q
        | ct η2 st2 => rw [hB] at q; exact q
        | bk η2 st2 => rw [hB] at q; exact q
        | rt v st2 => rw [hB] at q; exact q
        | xc x η2 st2 =>
          rw [hB] at q
          exact fun ρ' H' σ' cls d e' w' s' xr => k (PostS.mono q e') w' s' xr
        | no => rw [hB] at q; exact (show False from q).elim
      split at h3
      · rename_i hd e
        obtain ⟨x, np, nm, b₀, suite, pos', z, rfl, hn, hz, hem, hk, hc⟩ := hd_parts S h3
        rcases hc with ⟨rfl, hsl, hsu⟩ | ⟨nn, i, rfl, hsl, hN, hl, hsu⟩
        · refine PS.imp (ps_try_only t1 t2 hn S.tk body (fun a oe cls d pn hz hf => su_B S hz hf hd.su _ hsu)) fun D σ H q => ?_
          exact rd q fun {e η st ρ H} q2 {σ cls d} w sl xr => hnd_only S hz hem hk hsl q2 w sl xr fun q3 => q3 _ _ _ _ _ Ext.refl w sl xr
        · refine PS.imp (ps_try_as (i := i) t1 t2 (by rw [S.N]; exact S.nd) (by rw [S.N]; exact hN) (show X.env.scope.names.lookup nn = _ by rw [S.sc]; exact hl) hn S.tk body (fun a oe cls d pn hz hf => su_B S hz hf hd.su _ hsu)) fun D σ H q => ?_
          exact rd q fun {e η st ρ H} q2 {σ cls d} w sl xr => hnd_as S hz hem hk hsl q2 w sl xr
      · obtain ⟨l, h4, h5⟩ := hds_ok S h3
        refine PS.imp (ps_try_many t1 t2 S.tk body h4) fun D σ H q => ?_
        exact rd q fun {e η st ρ H} q2 {σ cls d} w sl xr => h5 q2 w sl xr
      · cases h3
    · cases h
  | .mkI _ _, c, W, X, S, s, h => (nomatch (show false = true from h))
theorem sndB : ∀ (sm : Sm) (c : CC) (W : WX) (X : Cx), CxS g p n c W X → ∀ ss, ckB p sm c ss = true → PSs X ss (STS g W (exec (itp p n) sm))
  | .bad, c, W, X, S, ss, h => pss_no fun _ _ => rfl
  | .skip, c, W, X, S, ss, h => by
    simp only [ckB, List.isEmpty_iff] at h
    subst h
    refine PSs.imp pss_nil ?_
    rintro D σ H ⟨ρ, st, η, w, sl, q⟩
    exact q ρ H σ Ext.refl w sl
  | .seq a b, c, W, X, S, ss, h => by
    simp only [ckB] at h
    cases hf : isFrz a with
    | true =>
      rw [hf] at h
      cases a <;> first | exact (nomatch (show false = true from hf)) | skip
      rename_i i
      have hb := sndB b c W X S ss h
      refine ⟨fun pins s σ H D I q => ?_⟩
      obtain ⟨ρ, st, η, w, sl, q⟩ := q
      simp only [exec] at q
      cases he : η[i]? with
      | none => rw [he] at q; exact (show False from q).elim
      | some o =>
        rw [he] at q
        cases o with
        | none => exact (show False from q).elim
        | some v =>
          dsimp only at q
          cases hz : frzV 1000 v st with
          | none => rw [hz] at q; exact (show False from q).elim
          | some r =>
            rw [hz] at q
            obtain ⟨V, hV, rv⟩ := sl.2 i v he
            obtain ⟨H2, I2, e2, w2, r2⟩ := frzV_sd 1000 v V st H r I w rv hz
            exact hb.run pins s σ H2 D I2 ⟨ρ, r.2, η.set i (some r.1), w2, (sl.ext e2).same hV r2, PostS.mono q e2⟩
    | false =>
      rw [hf] at h
      cases ss with
      | nil => cases h
      | cons s ss =>
        dsimp only at h
        simp only [Bool.and_eq_true] at h
        refine PSs.imp (pss_cons (snd1 a c W X S s h.1) (sndB b c W X S ss h.2)) ?_
        rintro D σ H ⟨ρ, st, η, w, sl, q⟩
        refine ⟨ρ, st, η, w, sl, ?_⟩
        simp only [exec] at q
        cases ha : exec (itp p n) a η st with
        | nx η2 st2 =>
          rw [ha] at q
          exact fun ρ' H' σ' e' w' s' => ⟨ρ', st2, η2, w', s', PostS.mono q e'⟩
        | ct η2 st2 => rw [ha] at q; exact q
        | bk η2 st2 => rw [ha] at q; exact q
        | rt v st2 => rw [ha] at q; exact q
        | xc x η2 st2 => rw [ha] at q; exact q
        | no => rw [ha] at q; exact (show False from q).elim
  | .asg _ _, c, W, X, S, ss, h => (nomatch (show false = true from h))
  | .asgT _ _, c, W, X, S, ss, h => (nomatch (show false = true from h))
  | .put _ _ _, c, W, X, S, ss, h => (nomatch (show false = true from h))
  | .expr _, c, W, X, S, ss, h => (nomatch (show false = true from h))
  | .frz _, c, W, X, S, ss, h => (nomatch (show false = true from h))
  | .ret _, c, W, X, S, ss, h => (nomatch (show false = true from h))
  | .retN, c, W, X, S, ss, h => (nomatch (show false = true from h))
  | .ite _ _ _, c, W, X, S, ss, h => (nomatch (show false = true from h))
  | .for_ _ _ _, c, W, X, S, ss, h => (nomatch (show false = true from h))
  | .brk, c, W, X, S, ss, h => (nomatch (show false = true from h))
  | .cont, c, W, X, S, ss, h => (nomatch (show false = true from h))
  | .setf _ _ _ _, c, W, X, S, ss, h => (nomatch (show false = true from h))
  | .while_ _ _, c, W, X, S, ss, h => (nomatch (show false = true from h))
  | .raise _, c, W, X, S, ss, h => (nomatch (show false = true from h))
  | .try_ _ _, c, W, X, S, ss, h => (nomatch (show false = true from h))
  | .mkI _ _, c, W, X, S, ss, h => (nomatch (show false = true from h))
end
end
end Mi
namespace Mi
open PySem L2 PySem.Spec PyProof.Rows

section
variable {P : Program} {w : World} {mg : Str → Option Value} {base : Heap} {g : Gd} {p : Prg}
/-- a def of the row and its compact text -/
def qualOf (p : Prg) (d : Def) : Str := match d.kind with
  | .meth c => (match p.cs[c]? with
    | some q => tx q.1 ++ ("." : Str) ++ tx d.name
    | none => tx d.name)
  | _ => tx d.name
def lamN (p : Prg) (d : Def) : Str := (qualOf p d ++ (".<locals>." : Str)) ++ ("<lambda>" : Str)
structure FnIn (cs : List (Addr × Addr)) (g : Gd) (mg : Str → Option Value) (p : Prg) (d : Def) (fa : Addr) (fd : FuncData) (args : Arguments) (body : List Stmt) (scope : Scope) : Prop where
  fn : FunD g.K (tx d.name) (qualOf p d) args body scope [] [] fa fd
  at_ : match d.kind with
    | .fn => mg (tx d.name) = some (.ref fa)
    | .meth c => Cls g.K (g.ca c) ∧ Meth g.K (g.ca c) (tx d.name) fa
    | .mk _ _ => False
  bd : Binds g.K fd (d.ps.map tx) []
  sc : FnScope (d.ns.map tx) (d.ps.map tx) scope
  ck : ckB p d.body ⟨d.ns.map tx, scope, fun _ => true, d.lam, true⟩ body = true
  lm : d.lam = true → ∃ cA P, fd.code = .ref cA ∧ (cA, P) ∈ cs ∧ (P, lamN p d) ∈ g.tb ∧ ∀ q ∈ g.tb, q.1 = P → q.2 = lamN p d
/-- a class's making -/
structure MkIn (cs : List (Addr × Addr)) (g : Gd) (mg : Str → Option Value) (p : Prg) (d : Def) (c fi : Nat) (d' : Def) (fI : Addr) (fd : FuncData) : Prop where
  at_ : p.fns[fi]? = some d'
  bd : d.body = .mkI c fi
  ns : d.ns = d.ps
  ps : d'.ps.length = d.ps.length + 1
  mkr : Mk g.K (g.ca c) fI
  fn : ∃ args body scope, FnIn cs g mg p d' fI fd args body scope
  mg : mg (tx d.name) = some (.ref (g.ca c))
structure XcK (g : Gd) (mg : Str → Option Value) (p : Prg) (i : Nat) (x : Txt) : Prop where
  mg : mg (tx x) = some (g.xc i)
  cl : ∃ C, g.xc i = .ref C ∧ PySem.W.excIn g.K C He.veBase "ValueError.__new__" = true ∧ PySem.W.keepIn g.K (.ref C) = true ∧ PySem.W.subIn g.K (.ref C) (.type "BaseException") = some true ∧ PySem.W.typeIn g.K (.ref C) = some (.type "type")
  em : ∀ j l, p.em[j]? = some l → j < p.xs.length → PySem.W.exmOne g.K (g.xc i) (g.xc j) = some (decide (i ∈ l))
  kit : ∀ j l, p.em[j]? = some l → j < p.xs.length → PySem.W.kitOne g.K (g.xc i) (g.xc j) = some (decide (i ∈ l))
  kitV : PySem.W.kitOne g.K (g.xc i) (.type "ValueError") = some true
  ec : ∀ D, g.xc i = .ref D → ExcC g.K D ∧ XfC g.K D
  xal : ∃ l, p.xa[i]? = some l
  xa : ∀ D l, g.xc i = .ref D → p.xa[i]? = some l → ∀ f ∈ l, PySem.W.findIn g.K (.ref D) (tx f) = some none
structure Prgs (cs : List (Addr × Addr)) (g : Gd) (mg : Str → Option Value) (p : Prg) (w : World) : Prop where
  fns : ∀ (f : Nat) (d : Def), p.fns[f]? = some d → match d.kind with
    | .mk c fi => ∃ d' fI fd, MkIn cs g mg p d c fi d' fI fd
    | _ => ∃ fa fd args body scope, FnIn cs g mg p d fa fd args body scope
  bl : ∀ x ∈ bnames, mg (x : Str) = none
  gd : ∀ (i : Nat) nm ks xs, p.gs[i]? = some (nm, .dct ks xs) → KdOk g g.K w mg nm ks xs
  gs : ∀ (i : Nat) (q : Txt × Val), p.gs[i]? = some q → isDct q.2 = false → ∃ u V, mg (tx q.1) = some u ∧ RelV V u ∧ ∀ ρ H, Rel g ρ H q.2 V
  cls : ∀ (k : Nat) q, p.cs[k]? = some q → Cls g.K (g.ca k) ∧ ∀ f ∈ q.2, NoAttr g.K (g.ca k) (tx f)
  exc : ∀ (i : Nat) x, p.xs[i]? = some x → XcK g mg p i x
theorem start_slots {ρ : List Addr} {H : Hp} {as : List Val} {vs : List V} {N : List Str} {k : Nat} (r : Rels g ρ H as vs) (hk : N.length = k) : Slots g ρ H (as.map some ++ List.replicate (k - as.length) none) (L2.start N vs) := by
  unfold L2.start
  have hl := r.length
  refine ⟨by simp [hk, hl], fun i v h => ?_⟩
  by_cases hi : i < as.length
  · rw [List.getElem?_append_left (by simpa using hi), List.getElem?_map] at h
    cases q : as[i]? with
    | none => rw [q] at h; cases h
    | some x =>
      rw [q] at h
      cases h
      obtain ⟨V, hV, rv⟩ := r.get q
      refine ⟨V, ?_, rv⟩
      rw [List.getElem?_append_left (by rw [List.length_map]; omega), List.getElem?_map, hV]; rfl
  · rw [List.getElem?_append_right (by simpa using hi)] at h
    rw [List.getElem?_replicate] at h
    split at h <;> cases h
theorem body_of {n f : Nat} {d : Def} {E : XK} (hd : p.fns[f]? = some d) {vs : List V} {H : Hp} {Q : VK} (h : spF g p (n + 1) f vs H Q E) :
    STS g (fun cls dd _ H => E cls dd H) (exec (itp p n) d.body) { nx := fun _ H' => Q .non H', rt := Q } (L2.start (d.ns.map tx) vs) H := by
  obtain ⟨ρ, st, as, w1, r, ⟨d', hd', hl⟩, q⟩ := h
  rw [hd] at hd'
  cases hd'
  refine ⟨ρ, st, as.map some ++ List.replicate (d.ns.length - as.length) none, w1, start_slots r (by simp), ?_⟩
  simp only [callN_succ, hd] at q
  obtain ⟨_, q⟩ := if_ok q
  show PostS _ _ _ _ (exec ⟨callN p n, p.gs⟩ d.body _ _) _
  cases hx : exec ⟨callN p n, p.gs⟩ d.body (as.map some ++ List.replicate (d.ns.length - as.length) none) st with
  | nx η st2 => rw [hx] at q; exact fun ρ' H' σ' e' w' s' => q ρ' H' e' w' _ rel_non
  | rt v st2 => rw [hx] at q; exact fun ρ' H' V e' w' rv => q ρ' H' e' w' V rv
  | xc x η st2 => rw [hx] at q; exact fun ρ' H' σ' cls dd e' w' s' xr => q ρ' H' cls dd e' w' xr
  | bk η st2 => rw [hx] at q; exact (show False from q).elim
  | ct η st2 => rw [hx] at q; exact (show False from q).elim
  | no => rw [hx] at q; exact (show False from q).elim
theorem sp_len {n f : Nat} {d : Def} {E : XK} (hd : p.fns[f]? = some d) {vs : List V} {H : Hp} {Q : VK} (h : spF g p n f vs H Q E) : vs.length = (d.ps.map tx).length := by
  obtain ⟨ρ, st, as, w1, r, ⟨d', hd', hl⟩, q⟩ := h
  rw [hd] at hd'
  cases hd'
  rw [← r.length, hl, List.length_map]
theorem cx_of {cs : List (Addr × Addr)} (hTB : ∀ q ∈ cs, LamX.TabB base mg q.1 q.2) (S : Prgs cs g mg p w) {n : Nat} {d : Def} {fa : Addr} {args : Arguments} {body : List Stmt} {scope : Scope} {dV kV doc pm ct cdv : Value} {an : Option Addr}
    (F : FnIn cs g mg p d fa (PySem.W.fnOf (tx d.name) (qualOf p d) args body scope dV kV doc pm an cdv ct) args body scope)
    (ih : ∀ m, m ≤ n → ∀ f d, p.fns[f]? = some d → ∀ fa fd args body scope, FnIn cs g mg p d fa fd args body scope → FnOk P w g.K mg base (L2.CX P w) m fa fd (d.ps.map tx) (spF g p m f))
    {A : Around} {outer : List PySem.Env} {s : Shared} {H : Hp} {E : XK} (hr : Room n (A.deeper (envOfC (qualOf p d) scope s.heap.objs.size fa cdv))) :
    CxS g p n ⟨d.ns.map tx, scope, fun _ => true, d.lam, true⟩ (fun cls dd _ H => E cls dd H) (cxOf (L2.CX P w) P w g.K mg base (d.ns.map tx) (qualOf p d) scope fa cdv A outer s H E) := {
  K := rfl
  N := rfl
  nd := F.sc.nd
  sc := rfl
  fk := F.sc.kind
  fn := fun _ _ => rfl
  calm := rfl
  room := hr
  tk := takes_of rfl rfl rfl rfl
  po := passes_of rfl
  bl := S.bl
  top := fun _ => ⟨rfl, rfl⟩
  lam := fun h => by
    obtain ⟨cA, P, e, m1, m2, m3⟩ := F.lm h
    exact ⟨cA, P, e, hTB _ m1, m2, m3⟩
  gs := S.gs
  gd := S.gd
  fns := fun f' d' hd' => by
    have X := S.fns f' d' hd'
    unfold FnX
    cases hk : d'.kind with
    | fn =>
      rw [hk] at X
      obtain ⟨fa', fd', ar', b', sc', F'⟩ := X
      have a := F'.at_
      rw [hk] at a
      exact ⟨fa', fd', ih n (Nat.le_refl _) f' d' hd' fa' fd' ar' b' sc' F', a, F'.fn.kp, F'.bd⟩
    | meth c =>
      rw [hk] at X
      obtain ⟨fa', fd', ar', b', sc', F'⟩ := X
      have a := F'.at_
      rw [hk] at a
      exact ⟨fa', fd', ih n (Nat.le_refl _) f' d' hd' fa' fd' ar' b' sc' F', a.1, a.2, F'.bd⟩
    | mk c fi =>
      rw [hk] at X
      obtain ⟨d2, fI, fd, M⟩ := X
      obtain ⟨ar, b, sc, F2⟩ := M.fn
      exact ⟨fI, fd, d2, M.at_, M.bd, M.ns, M.ps, M.mkr, M.mg, fun m e => ih m (by omega) fi d2 M.at_ fI fd ar b sc F2, F2.bd⟩
  cls := S.cls
  exc := fun i x h => by
    have X := S.exc i x h
    obtain ⟨C, h1, h2, h3, h4, h5⟩ := X.cl
    exact ⟨X.mg, ⟨C, h1, h2, h3, raises_own h4 h5⟩, X.em, X.kit, X.kitV, X.ec, X.xal, X.xa⟩ }
theorem fn_all {cs : List (Addr × Addr)} (hTB : ∀ q ∈ cs, LamX.TabB base mg q.1 q.2) (S : Prgs cs g mg p w) : ∀ (n m : Nat), m ≤ n → ∀ (f : Nat) (d : Def), p.fns[f]? = some d → ∀ fa fd args body scope, FnIn cs g mg p d fa fd args body scope → FnOk P w g.K mg base (L2.CX P w) m fa fd (d.ps.map tx) (spF g p m f) := by
  have zero : ∀ (f : Nat) (d : Def), p.fns[f]? = some d → ∀ fa fd args body scope, FnIn cs g mg p d fa fd args body scope → FnOk P w g.K mg base (L2.CX P w) 0 fa fd (d.ps.map tx) (spF g p 0 f) := fun f d hd fa fd args body scope F => by
    refine ⟨fun vs H Q E h => ?_, fun A outer s H ar us vs Q E hr he hb hv h => ?_⟩
    · obtain ⟨_, _, _, _, _, _, q⟩ := h; rw [callN_zero] at q; exact (show False from q).elim
    · obtain ⟨_, _, _, _, _, _, q⟩ := h; rw [callN_zero] at q; exact (show False from q).elim
  intro n
  induction n with
  | zero =>
    intro m hm f d hd fa fd args body scope F
    have : m = 0 := by omega
    subst this
    exact zero f d hd fa fd args body scope F
  | succ n ih =>
    intro m hm f d hd fa fd args body scope F
    by_cases hmn : m ≤ n
    · exact ih m hmn f d hd fa fd args body scope F
    · have : m = n + 1 := by omega
      subst this
      obtain ⟨oc, od, dV, kV, doc, pm, an, cdv, ct, osl, efd, lk, hcd, _, _⟩ := F.fn.ex
      subst efd
      exact fn_of lk hcd F.sc (fun vs H Q E h => sp_len hd h) fun A outer s H vs Q E hr h => ⟨_, sndB d.body _ _ _ (cx_of hTB S F ih hr) body F.ck, body_of hd h⟩
/-- a list may be locked ahead -/
def lockS (t : TS) : TS := fun D σ H => t D σ H ∨ ∃ a vs, H a = some (.lst vs) ∧ ∀ od, t D σ (upd H a (.frz od (.lst vs)))
theorem PSs.lock {X : Cx} {b : List Stmt} {t : TS} (h : PSs X b t) : PSs X b (lockS t) := ⟨fun pins s σ H D I q => by
  rcases q with q | ⟨a, vs, ha, q⟩
  · exact h.run pins s σ H D I q
  · obtain ⟨od, I2⟩ := I.lock ha trivial
    exact h.run pins s σ _ D I2 (q od)⟩
def spL (g : Gd) (p : Prg) (n f : Nat) : Sp := fun vs H Q E => spF g p n f vs H Q E ∨ ∃ a us, H a = some (.lst us) ∧ ∀ od, spF g p n f vs (upd H a (.frz od (.lst us))) Q E
theorem fn_law {cs : List (Addr × Addr)} (hTB : ∀ q ∈ cs, LamX.TabB base mg q.1 q.2) (S : Prgs cs g mg p w) {n f : Nat} {d : Def} (hd : p.fns[f]? = some d) {fa : Addr} {fd : FuncData} {args : Arguments} {body : List Stmt} {scope : Scope} (F : FnIn cs g mg p d fa fd args body scope) :
    FnOk P w g.K mg base (L2.CX P w) (n + 1) fa fd (d.ps.map tx) (spL g p (n + 1) f) := by
  have ih := fn_all (P := P) (w := w) hTB S n
  obtain ⟨oc, od, dV, kV, doc, pm, an, cdv, ct, osl, efd, lk, hcd, _, _⟩ := F.fn.ex
  subst efd
  refine fn_of lk hcd F.sc (fun vs H Q E h => ?_) fun A outer s H vs Q E hr h => ⟨_, PSs.lock (sndB d.body _ _ _ (cx_of hTB S F ih hr) body F.ck), ?_⟩
  · rcases h with h | ⟨a, us, ha, h⟩
    · exact sp_len hd h
    · exact sp_len hd (h ⟨.none, none, .plain, #[]⟩)
  · rcases h with h | ⟨a, us, ha, h⟩
    · exact .inl (body_of hd h)
    · exact .inr ⟨a, us, ha, fun od => body_of hd (h od)⟩
end
end Mi
namespace Mi
open PySem L2 PySem.Spec PyProof.Rows

/-! a law's end -/
structure Src where
  d : Def
  st : Stmt
def clsN (p : Prg) (c : Nat) : Str := match p.cs[c]? with
  | some q => tx q.1
  | none => Str.empty
def excN (p : Prg) (i : Nat) : Str := match p.xs[i]? with
  | some x => tx x
  | none => Str.empty
def isMk (d : Def) : Bool := match d.kind with
  | .mk _ _ => true
  | _ => false
def Src.dd (p : Prg) (s : Src) : He.DefD := match s.d.kind with
  | .meth c => ⟨(clsN p c, some (tx s.d.name)), tx s.d.name, qualOf p s.d, defArgs s.st, defBody s.st, defScope s.st, [], []⟩
  | _ => ⟨(tx s.d.name, none), tx s.d.name, qualOf p s.d, defArgs s.st, defBody s.st, defScope s.st, [], []⟩
def dds (p : Prg) (ss : List Src) : List He.DefD := (ss.filter fun s => !isMk s.d).map (Src.dd p)
def scB (N P : List Str) (sc : Scope) : Bool := decide (sc.kind = .function) && (decide (sc.isCoroutine = false) && (decide (sc.isGenerator = false) && (decide N.Nodup && (decide (N.take P.length = P)
  && (decide (∀ x ∈ P, sc.names.lookup x = some .local ∨ sc.names.lookup x = some .cell) && decide (∀ y ∈ sc.names, y.2 ≠ .free))))))
def mkB (p : Prg) (d : Def) (c fi : Nat) : Bool := match p.fns[fi]?, p.cs[c]?, d.body with
  | some d', some q, .mkI c' fi' => decide (c' = c) && (decide (fi' = fi) && (decide (d.ns = d.ps) && (decide (d'.ps.length = d.ps.length + 1) && (decide (tx d'.name = ("__init__" : Str)) && (decide (d.name = q.1) && (match d'.kind with
    | .meth c2 => decide (c2 = c)
    | _ => false))))))
  | _, _, _ => false
def Src.okB (p : Prg) (s : Src) : Bool := match s.d.kind with
  | .mk c fi => mkB p s.d c fi
  | .meth c => decide (c < p.cs.length) && (scB (s.d.ns.map tx) (s.d.ps.map tx) (defScope s.st) && ckB p s.d.body ⟨s.d.ns.map tx, defScope s.st, fun _ => true, s.d.lam, true⟩ (defBody s.st))
  | .fn => scB (s.d.ns.map tx) (s.d.ps.map tx) (defScope s.st) && ckB p s.d.body ⟨s.d.ns.map tx, defScope s.st, fun _ => true, s.d.lam, true⟩ (defBody s.st)
def Src.bd (p : Prg) (s : Src) : Prop := ∀ (kV doc pm : Value) (an : Option Addr) (cdv ct : Value) (us : List Value), us.length = (s.d.ps.map tx).length →
  bindArgs (PySem.W.fnOf (tx s.d.name) (qualOf p s.d) (defArgs s.st) (defBody s.st) (defScope s.st) .none kV doc pm an cdv ct) ⟨us, []⟩ = pure ((s.d.ps.map tx).zip us)
def BdAll (p : Prg) : List Src → Prop
  | [] => True
  | s :: r => (isMk s.d = true ∨ s.bd p) ∧ BdAll p r
theorem BdAll.all {p : Prg} : ∀ {ss : List Src}, BdAll p ss → ∀ s ∈ ss, isMk s.d = true ∨ s.bd p
  | [], _, _, h => by cases h
  | s :: r, h, z, m => by
    rcases List.mem_cons.mp m with rfl | m
    · exact h.1
    · exact BdAll.all h.2 z m
def faF (p : Prg) (s : Src) : List He.Fa := match s.d.kind with
  | .fn => [He.Fa.glo (tx s.d.name)]
  | .meth c => [He.Fa.meth (clsN p c) (tx s.d.name)]
  | .mk _ _ => [He.Fa.glo (tx s.d.name), He.Fa.mkr (tx s.d.name)]
def faC (q : Txt × List Txt) : List He.Fa := He.Fa.cls (tx q.1) :: q.2.map fun f => He.Fa.noat (tx q.1) (tx f)
def faX (x : Txt) : List He.Fa := [He.Fa.glo (tx x), He.Fa.exc (tx x)]
def faOf (p : Prg) (ss : List Src) : List He.Fa := (ss.flatMap (faF p) ++ bnames.map fun (x : String) => He.Fa.free (x : Str)) ++ (p.cs.flatMap faC ++ p.xs.flatMap faX)
/-! constants -/
mutual
def valK (K : PySem.W.Frag) : Val → Value → Option V
  | .non, .none => some .non
  | .bl b, .bool c => if b = c then some (.bl b) else none
  | .int i, .int j _ => if i = j then some (.int i) else none
  | .str s, .str y _ => if tx s = y ∧ s.length ≤ sizeLine then some (.str (tx s)) else none
  | .tup xs, .ref a => match K.lookup a with
    | some ⟨.type c, _, .seq its _, _⟩ => if c = "tuple" ∧ its.size ≤ sizeLine ∧ xs.length ≤ sizeLine then (valsK K xs its.toList).map fun _ => .ref a else none
    | _ => none
  | _, _ => none
def valsK (K : PySem.W.Frag) : List Val → List Value → Option (List V)
  | [], [] => some []
  | x :: xs, u :: us => match valK K x u, valsK K xs us with
    | some v, some vs => some (v :: vs)
    | _, _ => none
  | _, _ => none
end
mutual
theorem valK_ok {K : PySem.W.Frag} {ca : Nat → Addr} {xc : Nat → Value} {tb : List (Addr × Str)} : ∀ (x : Val) {u : Value} {V : V}, valK K x u = some V → RelV V u ∧ ∀ ρ H, Rel ⟨K, ca, xc, tb⟩ ρ H x V
  | .non, u, V, h => by
    cases u with
    | none => simp only [valK, Option.some.injEq] at h; subst h; exact ⟨rfl, fun _ _ => by simp only [Rel]⟩
    | _ => simp [valK] at h
  | .bl b, u, V, h => by
    cases u with
    | bool c =>
      simp only [valK] at h
      split at h
      · rename_i e; cases h; subst e; exact ⟨rfl, fun _ _ => by simp only [Rel]⟩
      · cases h
    | _ => simp [valK] at h
  | .int i, u, V, h => by
    cases u with
    | int j t =>
      simp only [valK] at h
      split at h
      · rename_i e; cases h; subst e; exact ⟨⟨t, rfl⟩, fun _ _ => by simp only [Rel]⟩
      · cases h
    | _ => simp [valK] at h
  | .str s, u, V, h => by
    cases u with
    | str y t =>
      simp only [valK] at h
      split at h
      · rename_i e; cases h; obtain ⟨rfl, e⟩ := e; exact ⟨⟨t, rfl⟩, fun _ _ => by simp only [Rel]; exact ⟨trivial, e⟩⟩
      · cases h
    | _ => simp [valK] at h
  | .tup xs, u, V, h => by
    cases u with
    | ref a =>
      simp only [valK] at h
      split at h
      · rename_i c od its n sl hl
        split at h
        · rename_i e
          obtain ⟨rfl, e1, e2⟩ := e
          cases hv : valsK K xs its.toList with
          | none => rw [hv] at h; cases h
          | some vs =>
            rw [hv] at h
            cases h
            obtain ⟨r1, r2⟩ := valsK_ok (ca := ca) (xc := xc) (tb := tb) xs hv
            refine ⟨rfl, fun ρ H => ?_⟩
            simp only [Rel]
            exact ⟨a, vs, rfl, .inr ⟨_, its, n, hl, rfl, rfl, e1, r1⟩, e2, r2 ρ H⟩
        · cases h
      · cases h
    | _ => simp [valK] at h
  | .lst xs, u, V, h => by cases u <;> simp [valK] at h
  | .dct ks xs, u, V, h => by cases u <;> simp [valK] at h
  | .loc n, u, V, h => by cases u <;> simp [valK] at h
theorem valsK_ok {K : PySem.W.Frag} {ca : Nat → Addr} {xc : Nat → Value} {tb : List (Addr × Str)} : ∀ (xs : List Val) {us : List Value} {vs : List V}, valsK K xs us = some vs → Vals vs us ∧ ∀ ρ H, Rels ⟨K, ca, xc, tb⟩ ρ H xs vs
  | [], us, vs, h => by
    cases us with
    | nil => simp only [valsK, Option.some.injEq] at h; subst h; exact ⟨.nil, fun _ _ => by simp only [Rels]⟩
    | cons u us => simp [valsK] at h
  | x :: xs, us, vs, h => by
    cases us with
    | nil => simp [valsK] at h
    | cons u us =>
      simp only [valsK] at h
      split at h
      · rename_i v r h1 h2
        cases h
        obtain ⟨a1, a2⟩ := valK_ok (ca := ca) (xc := xc) (tb := tb) x h1
        obtain ⟨b1, b2⟩ := valsK_ok (ca := ca) (xc := xc) (tb := tb) xs h2
        exact ⟨.cons a1 b1, fun ρ H => by simp only [Rels]; exact ⟨v, r, rfl, a2 ρ H, b2 ρ H⟩⟩
      · cases h
end
def entB (K : PySem.W.Frag) (a : Addr) : List Txt → List Val → Bool
  | k :: ks, x :: xs => (match PySem.W.nsIn K a (tx k) with
    | some (some u) => (valK K x u).isSome
    | _ => false) && entB K a ks xs
  | [], [] => true
  | _, _ => false
def gsB (p : Prg) (K : PySem.W.Frag) : Bool := p.gs.all fun q => match PySem.W.nsIn K mainGlobals (tx q.1) with
  | some (some u) => (match q.2 with
    | .dct ks xs => (match u with
      | .ref a => entB K a ks xs
      | _ => false)
    | v => (valK K v u).isSome)
  | _ => false
/-- where a written dict lies -/
def kdA (nm : Txt) (K : PySem.W.Frag) : Addr := match PySem.W.nsIn K mainGlobals (tx nm) with
  | some (some (.ref a)) => a
  | _ => 0
def tabs (p : Prg) : List He.Tab := p.gs.filterMap fun q => match q.2 with
  | .dct ks _ => some (kdA q.1, ks.map tx)
  | _ => none
theorem entB_ok {K : PySem.W.Frag} {a : Addr} {ca : Nat → Addr} {xc : Nat → Value} {tb : List (Addr × Str)} {k : Txt} : ∀ {ks : List Txt} {xs : List Val}, entB K a ks xs = true →
    (∀ v, look k ks xs = some v → ∃ u V, PySem.W.nsIn K a (tx k) = some (some u) ∧ RelV V u ∧ ∀ ρ H, Rel ⟨K, ca, xc, tb⟩ ρ H v V) ∧ (look k ks xs = none → k ∉ ks)
  | [], [], _ => ⟨fun _ h => by simp [look] at h, fun _ => by simp⟩
  | [], _ :: _, h => by simp [entB] at h
  | _ :: _, [], h => by simp [entB] at h
  | k' :: ks, x :: xs, h => by
    simp only [entB, Bool.and_eq_true] at h
    obtain ⟨h1, h2⟩ := h
    obtain ⟨i1, i2⟩ := entB_ok (k := k) (ca := ca) (xc := xc) (tb := tb) h2
    by_cases e : k' = k
    · subst e
      simp only [look, if_true]
      refine ⟨fun v hv => ?_, fun z => nomatch z⟩
      cases hv
      split at h1
      · rename_i u hu
        obtain ⟨V, hV⟩ := Option.isSome_iff_exists.mp h1
        obtain ⟨r1, r2⟩ := valK_ok (ca := ca) (xc := xc) (tb := tb) _ hV
        exact ⟨u, V, hu, r1, r2⟩
      · cases h1
    · simp only [look, if_neg e]
      exact ⟨i1, fun z => by simp only [List.mem_cons, not_or]; exact ⟨fun q => e q.symm, i2 z⟩⟩
theorem nsIn_none {K : PySem.W.Frag} {P : Params} {a : Addr} {ks : List Str} {k : Str} {es : Array DictEntry} {n : Nat} (hl : K.lookup a = some ⟨.type "dict", none, .dict es n, #[]⟩) (h : es.toList.map He.keyOf = He.keysIn P ks) (hk : k ∉ ks) : PySem.W.nsIn K a k = some none := by
  unfold PySem.W.nsIn
  rw [hl]
  dsimp only
  have key : ∀ (l : List DictEntry) (ks : List Str), l.map He.keyOf = He.keysIn P ks → k ∉ ks → l.find? (·.key.isStr k) = none ∧ l.any (·.refKey) = false := by
    intro l
    induction l with
    | nil => intro _ _ _; exact ⟨rfl, rfl⟩
    | cons e r ih =>
      intro ks h hk
      cases ks with
      | nil => cases h
      | cons k' ks =>
        have h1 : He.keyOf e :: r.map He.keyOf = some (k', PyData.keyHash P k') :: He.keysIn P ks := h
        injection h1 with h2 h3
        simp only [List.mem_cons, not_or] at hk
        obtain ⟨i1, i2⟩ := ih ks h3 hk.2
        unfold He.keyOf at h2
        split at h2
        · rename_i x t q
          have h4 := Option.some.inj h2
          obtain ⟨h5, h6⟩ := Prod.mk.inj h4
          subst h5
          have n1 : e.key.isStr k = false := by
            rw [q]
            cases z : (Value.str x t).isStr k with
            | false => rfl
            | true =>
              exfalso
              have : x = k := by simpa [Value.isStr] using z
              exact hk.1 this.symm
          refine ⟨by rw [List.find?_cons, n1]; exact i1, ?_⟩
          rw [List.any_cons, i2]
          have : e.refKey = false := by unfold DictEntry.refKey; rw [q]
          rw [this]; rfl
        · cases h2
  obtain ⟨h1, h2⟩ := key es.toList ks h hk
  rw [h1, h2]; rfl
theorem dicW_at {K : PySem.W.Frag} {a : Addr} {l : List (Option (Str × Int))} (h : He.dicW K a = some l) : ∃ es n, K.lookup a = some ⟨.type "dict", none, .dict es n, #[]⟩ ∧ es.toList.map He.keyOf = l := by
  unfold He.dicW at h
  split at h
  · rename_i c es n sl hl
    split at h
    · rename_i z
      obtain ⟨z1, z2⟩ := He.ba z
      obtain ⟨z3, z4⟩ := He.ba z2
      rw [of_decide_eq_true z1, Array.isEmpty_iff.mp z3] at hl
      exact ⟨es, n, hl, Option.some.inj h⟩
    · cases h
  · cases h
theorem gsB_ok {p : Prg} {K : PySem.W.Frag} {h : Heap} {mg : Str → Option Value} {ca : Nat → Addr} {xc : Nat → Value} {tb : List (Addr × Str)} (X : K.In h) (G : h.Ns mainGlobals mg) (c : gsB p K = true) :
    ∀ (i : Nat) (q : Txt × Val), p.gs[i]? = some q → isDct q.2 = false → ∃ u V, mg (tx q.1) = some u ∧ RelV V u ∧ ∀ ρ H, Rel ⟨K, ca, xc, tb⟩ ρ H q.2 V := fun i q hq nd => by
  have k := List.all_eq_true.mp c q (List.mem_of_getElem? hq)
  split at k
  · rename_i u e
    have k : (valK K q.2 u).isSome = true := by
      split at k
      · rename_i z; rw [z] at nd; cases nd
      · exact k
    obtain ⟨V, hV⟩ := Option.isSome_iff_exists.mp k
    obtain ⟨r1, r2⟩ := valK_ok (ca := ca) (xc := xc) (tb := tb) _ hV
    exact ⟨u, V, PySem.W.mg_of X G e, r1, r2⟩
  · cases k
theorem gd_ok {p : Prg} {K : PySem.W.Frag} {h : Heap} {mg : Str → Option Value} {ca : Nat → Addr} {xc : Nat → Value} {tb : List (Addr × Str)} {w : World} {fa : List He.Fa} {dd : List He.DefD} (X : K.In h) (G : h.Ns mainGlobals mg) (c : gsB p K = true) (t : He.SaysT fa dd (tabs p) w K) :
    ∀ (i : Nat) nm ks xs, p.gs[i]? = some (nm, .dct ks xs) → KdOk ⟨K, ca, xc, tb⟩ K w mg nm ks xs := fun i nm ks xs hq => by
  have hm := List.mem_of_getElem? hq
  have k := List.all_eq_true.mp c _ hm
  have k : (match PySem.W.nsIn K mainGlobals (tx nm) with
    | some (some (.ref a)) => entB K a ks xs
    | _ => false) = true := by
    dsimp only at k
    split at k
    · rename_i u e
      split at k
      · rename_i a; rw [e]; exact k
      · cases k
    · cases k
  split at k
  · rename_i a e
    have hA : kdA nm K = a := by unfold kdA; rw [e]
    have ht : ((kdA nm, ks.map tx) : He.Tab) ∈ tabs p := List.mem_filterMap.mpr ⟨_, hm, rfl⟩
    have e2 : (tabs p).map (fun t => He.dicW K (t.1 K)) = (tabs p).map fun t => some (He.keysIn w.params t.2) := congrArg (fun z : He.AlT => z.2) t
    obtain ⟨j, hj, ej⟩ := List.mem_iff_getElem.mp ht
    have e3 : He.dicW K (kdA nm K) = some (He.keysIn w.params (ks.map tx)) := by
      have e4 : ((tabs p).map (fun t => He.dicW K (t.1 K)))[j]? = ((tabs p).map fun t => some (He.keysIn w.params t.2))[j]? := by rw [e2]
      rw [List.getElem?_map, List.getElem?_map, List.getElem?_eq_getElem hj, ej] at e4
      exact Option.some.inj e4
    rw [hA] at e3
    obtain ⟨es, n, D⟩ := He.dicW_ok (w := w) e3
    obtain ⟨es2, n2, l2, l3⟩ := dicW_at e3
    refine ⟨a, es, n, PySem.W.mg_of X G e, D, fun k' => ?_⟩
    obtain ⟨i1, i2⟩ := entB_ok (k := k') (ca := ca) (xc := xc) (tb := tb) k
    refine ⟨i1, fun z => nsIn_none l2 l3 fun m => ?_⟩
    obtain ⟨k2, hk2, e5⟩ := List.mem_map.mp m
    exact i2 z (tx_inj e5 ▸ hk2)
  · cases k
/-! exceptions -/
def excB (K : PySem.W.Frag) (D : Addr) : Bool := He.eqO (PySem.W.findIn K (.ref D) "__class__") (some (some (.builtin "object.__class__"))) && (He.eqO (PySem.W.specialIn K (.builtin "object.__class__") "__get__") (some (some (.builtin "getset_descriptor.__get__")))
  && (decide (PySem.W.takesIn K (.builtin "object.__class__") = some true) && decide (PySem.W.mroIn K D (.type "object") = some true)))
theorem excB_ok {K : PySem.W.Frag} {D : Addr} (h : excB K D = true) (x : XfC K D) : ExcC K D := by
  obtain ⟨h1, h⟩ := He.ba h
  obtain ⟨h2, h⟩ := He.ba h
  obtain ⟨h3, h4⟩ := He.ba h
  exact ⟨x.ga, x.gg, x.exC, x.hdC, He.eqO_ok h1, He.eqO_ok h2, of_decide_eq_true h3, of_decide_eq_true h4⟩
def xmB (p : Prg) (K : PySem.W.Frag) (i : Nat) (x : Txt) (j : Nat) : Bool := match p.em[j]? with
  | some l => decide (PySem.W.exmOne K (.ref (He.ga K (tx x))) (.ref (He.ga K (excN p j))) = some (decide (i ∈ l))) && decide (PySem.W.kitOne K (.ref (He.ga K (tx x))) (.ref (He.ga K (excN p j))) = some (decide (i ∈ l)))
  | none => true
def xaB (p : Prg) (K : PySem.W.Frag) (i : Nat) (x : Txt) : Bool := match p.xa[i]? with
  | some l => l.all fun f => He.eqO (PySem.W.findIn K (.ref (He.ga K (tx x))) (tx f)) (some none)
  | none => false
def xiB (p : Prg) (K : PySem.W.Frag) (i : Nat) (x : Txt) : Bool := (List.range p.xs.length).all (xmB p K i x) && (decide (PySem.W.kitOne K (.ref (He.ga K (tx x))) (.type "ValueError") = some true)
  && (excB K (He.ga K (tx x)) && (xfB K (He.ga K (tx x)) && xaB p K i x)))
def xsB (p : Prg) (K : PySem.W.Frag) : Bool := (List.range p.xs.length).all fun i => match p.xs[i]? with
  | some x => xiB p K i x
  | none => true
def exB (p : Prg) (K : PySem.W.Frag) : Bool := gsB p K && xsB p K
theorem scB_ok {N P : List Str} {sc : Scope} (h : scB N P sc = true) : FnScope N P sc := by
  simp only [scB, Bool.and_eq_true, decide_eq_true_eq] at h
  obtain ⟨h1, h2, h3, h4, h5, h6, h7⟩ := h
  exact ⟨h1, h2, h3, h4, h5, h6, h7⟩
theorem fact_mem {fa : List He.Fa} {fn : List He.DefD} {K : PySem.W.Frag} (c : He.SaysD fa fn K) {f : He.Fa} (h : f ∈ fa) : f.ok K = true := by
  obtain ⟨i, hi⟩ := List.getElem?_of_mem h
  exact c.fact i hi
section
variable {ss : List Src} {p : Prg} {K : PySem.W.Frag} {h : Heap} {mg : Str → Option Value}
theorem fa_f {s : Src} (c : He.SaysD (faOf p ss) (dds p ss) K) (hs : s ∈ ss) {f : He.Fa} (hf : f ∈ faF p s) : f.ok K = true :=
  fact_mem c (List.mem_append_left _ (List.mem_append_left _ (List.mem_flatMap.mpr ⟨s, hs, hf⟩)))
theorem fa_c {q : Txt × List Txt} (c : He.SaysD (faOf p ss) (dds p ss) K) (hs : q ∈ p.cs) {f : He.Fa} (hf : f ∈ faC q) : f.ok K = true :=
  fact_mem c (List.mem_append_right _ (List.mem_append_left _ (List.mem_flatMap.mpr ⟨q, hs, hf⟩)))
theorem fa_x {x : Txt} (c : He.SaysD (faOf p ss) (dds p ss) K) (hs : x ∈ p.xs) {f : He.Fa} (hf : f ∈ faX x) : f.ok K = true :=
  fact_mem c (List.mem_append_right _ (List.mem_append_right _ (List.mem_flatMap.mpr ⟨x, hs, hf⟩)))
def caOf (p : Prg) (K : PySem.W.Frag) : Nat → Addr := fun c => He.ga K (clsN p c)
def xcOf (p : Prg) (K : PySem.W.Frag) : Nat → Value := fun i => .ref (He.ga K (excN p i))
theorem exc_of {tb : List (Addr × Str)} (X : K.In h) (G : h.Ns mainGlobals mg) (c : He.SaysD (faOf p ss) (dds p ss) K) (hx : xsB p K = true) (i : Nat) (x : Txt) (hi : p.xs[i]? = some x) : XcK ⟨K, caOf p K, xcOf p K, tb⟩ mg p i x := by
  have hm := List.mem_of_getElem? hi
  have hl : i < p.xs.length := by
    obtain ⟨z, _⟩ := List.getElem?_eq_some_iff.mp hi
    exact z
  have en : excN p i = tx x := by unfold excN; rw [hi]
  have exi : xcOf p K i = .ref (He.ga K (tx x)) := by unfold xcOf; rw [en]
  have k := List.all_eq_true.mp hx i (List.mem_range.mpr hl)
  rw [hi] at k
  obtain ⟨k1, k⟩ := He.ba (show _ = true from k)
  obtain ⟨k2, k⟩ := He.ba k
  obtain ⟨k3, k⟩ := He.ba k
  obtain ⟨k4, k5⟩ := He.ba k
  obtain ⟨c1, c2, c3, c4⟩ := He.exc_ok (fa_x c hm (f := He.Fa.exc (tx x)) (by simp [faX]))
  have hxa : ∃ l, p.xa[i]? = some l ∧ ∀ f ∈ l, PySem.W.findIn K (.ref (He.ga K (tx x))) (tx f) = some none := by
    unfold xaB at k5
    cases z : p.xa[i]? with
    | none => rw [z] at k5; cases k5
    | some l => rw [z] at k5; exact ⟨l, rfl, fun f hf => He.eqO_ok (List.all_eq_true.mp k5 f hf)⟩
  have hj : ∀ j l, p.em[j]? = some l → j < p.xs.length → PySem.W.exmOne K (.ref (He.ga K (tx x))) (xcOf p K j) = some (decide (i ∈ l)) ∧ PySem.W.kitOne K (.ref (He.ga K (tx x))) (xcOf p K j) = some (decide (i ∈ l)) := fun j l hj lt => by
    have q := List.all_eq_true.mp k1 j (List.mem_range.mpr lt)
    unfold xmB at q
    rw [hj] at q
    obtain ⟨q1, q2⟩ := He.ba q
    exact ⟨of_decide_eq_true q1, of_decide_eq_true q2⟩
  have k4' := xfB_ok k4
  refine ⟨?_, ⟨_, exi, c1, c2, c3, c4⟩, fun j l a b => ?_, fun j l a b => ?_, ?_, fun D e => ?_, ?_, fun D l e hl f hf => ?_⟩
  · show _ = some (xcOf p K i)
    rw [exi]
    exact He.glo_ok X G (fa_x c hm (by simp [faX]))
  · show PySem.W.exmOne K (xcOf p K i) (xcOf p K j) = _
    rw [exi]; exact (hj j l a b).1
  · show PySem.W.kitOne K (xcOf p K i) (xcOf p K j) = _
    rw [exi]; exact (hj j l a b).2
  · show PySem.W.kitOne K (xcOf p K i) _ = _
    rw [exi]; exact of_decide_eq_true k2
  · have e : xcOf p K i = .ref D := e
    rw [exi] at e
    cases e
    exact ⟨excB_ok k3 k4', k4'⟩
  · obtain ⟨l, e, _⟩ := hxa; exact ⟨l, e⟩
  · have e : xcOf p K i = .ref D := e
    rw [exi] at e
    cases e
    obtain ⟨l', e', z⟩ := hxa
    rw [e'] at hl
    cases hl
    exact z f hf
def LmOk (K : PySem.W.Frag) (p : Prg) (tb : List (Addr × Str)) (cs : List (Addr × Addr)) (ss : List Src) : Prop := ∀ s ∈ ss, s.d.lam = true → s.d.kind = .fn ∧ He.cT K (tx s.d.name, none) ∈ cs ∧ ((He.cT K (tx s.d.name, none)).2, lamN p s.d) ∈ tb ∧ ∀ q ∈ tb, q.1 = (He.cT K (tx s.d.name, none)).2 → q.2 = lamN p s.d
theorem lm_of {tb : List (Addr × Str)} {cs : List (Addr × Addr)} {s : Src} (lm : LmOk K p tb cs ss) (hs : s ∈ ss) {fd : FuncData} {fa : Addr} {q : Str} (e : s.d.kind = .fn → He.ga K (tx s.d.name) = fa)
    (F : FunD K (tx s.d.name) q (defArgs s.st) (defBody s.st) (defScope s.st) [] [] fa fd) :
    s.d.lam = true → ∃ cA P, fd.code = .ref cA ∧ (cA, P) ∈ cs ∧ (P, lamN p s.d) ∈ tb ∧ ∀ q ∈ tb, q.1 = P → q.2 = lamN p s.d := fun hl => by
  obtain ⟨m0, m1, m2, m3⟩ := lm s hs hl
  have e := e m0
  obtain ⟨oc, od, dV, kV, doc, pm, an, cdv, ct, osl, rfl, lk, hcd, _, _⟩ := F.ex
  obtain ⟨c0, rfl⟩ := He.codeIn_ref hcd
  have ec : He.codeOf K (tx s.d.name, none) = c0 := He.codeOf_eq (by show K.lookup (He.ga K (tx s.d.name)) = _; rw [e]; exact lk) rfl
  refine ⟨(He.cT K (tx s.d.name, none)).1, (He.cT K (tx s.d.name, none)).2, ?_, m1, m2, m3⟩
  show Value.ref c0 = .ref (He.codeOf K (tx s.d.name, none))
  rw [ec]
/-- where a def stands -/
def fAt (p : Prg) (K : PySem.W.Frag) (d : Def) : Addr := match d.kind with
  | .meth c => He.ma K (He.ga K (clsN p c)) (tx d.name)
  | _ => He.ga K (tx d.name)
theorem fn_in {tb : List (Addr × Str)} {cs : List (Addr × Addr)} {s : Src} (lm : LmOk K p tb cs ss) (X : K.In h) (G : h.Ns mainGlobals mg) (c : He.SaysD (faOf p ss) (dds p ss) K) (ok : ss.all (Src.okB p) = true) (bd : BdAll p ss) (hs : s ∈ ss) (hk : isMk s.d = false) :
    ∃ fd, FnIn cs ⟨K, caOf p K, xcOf p K, tb⟩ mg p s.d (fAt p K s.d) fd (defArgs s.st) (defBody s.st) (defScope s.st) := by
  have hd : s.dd p ∈ dds p ss := List.mem_map.mpr ⟨s, List.mem_filter.mpr ⟨hs, by rw [hk]; rfl⟩, rfl⟩
  obtain ⟨fd, F⟩ := c.defs hd
  have b : s.bd p := by
    rcases bd.all s hs with z | z
    · rw [hk] at z; cases z
    · exact z
  have k := List.all_eq_true.mp ok s hs
  have F' : FunD K (tx s.d.name) (qualOf p s.d) (defArgs s.st) (defBody s.st) (defScope s.st) [] [] (fAt p K s.d) fd := by
    unfold Src.dd at F
    unfold fAt
    cases hq : s.d.kind with
    | fn => rw [hq] at F; exact F
    | meth c => rw [hq] at F; exact F
    | mk c fi => rw [hq] at F; exact F
  refine ⟨fd, F', ?_, F'.bindsN b, ?_, ?_, lm_of lm hs (fun e => by unfold fAt; rw [e]) F'⟩
  · unfold fAt
    cases hq : s.d.kind with
    | fn => exact He.glo_ok X G (fa_f c hs (by unfold faF; rw [hq]; simp))
    | meth c' =>
      unfold Src.okB at k
      rw [hq] at k
      obtain ⟨k1, _⟩ := He.ba k
      have lt := of_decide_eq_true k1
      have e : clsN p c' = tx p.cs[c'].1 := by unfold clsN; rw [List.getElem?_eq_getElem lt]
      refine ⟨?_, ?_⟩
      · show Cls K (He.ga K (clsN p c'))
        rw [e]
        exact He.cls_ok (fa_c c (List.getElem_mem lt) (by simp [faC]))
      · exact He.meth_ok (fa_f c hs (by unfold faF; rw [hq]; simp))
    | mk c' fi => unfold isMk at hk; rw [hq] at hk; cases hk
  · unfold Src.okB at k
    cases hq : s.d.kind with
    | fn => rw [hq] at k; exact scB_ok (He.ba k).1
    | meth c' => rw [hq] at k; exact scB_ok (He.ba (He.ba k).2).1
    | mk c' fi => unfold isMk at hk; rw [hq] at hk; cases hk
  · unfold Src.okB at k
    cases hq : s.d.kind with
    | fn => rw [hq] at k; exact (He.ba k).2
    | meth c' => rw [hq] at k; exact (He.ba (He.ba k).2).2
    | mk c' fi => unfold isMk at hk; rw [hq] at hk; cases hk
theorem prgs_of {w : World} (tb : List (Addr × Str)) (cs : List (Addr × Addr)) (lm : LmOk K p tb cs ss) (X : K.In h) (G : h.Ns mainGlobals mg) (t : He.SaysT (faOf p ss) (dds p ss) (tabs p) w K) (c : He.SaysD (faOf p ss) (dds p ss) K) (hp : p.fns = ss.map (·.d)) (ok : ss.all (Src.okB p) = true) (bd : BdAll p ss)
    (ex : exB p K = true) : Prgs cs ⟨K, caOf p K, xcOf p K, tb⟩ mg p w := by
  obtain ⟨e1, e2⟩ := He.ba ex
  have src : ∀ {f : Nat} {d : Def}, p.fns[f]? = some d → ∃ s ∈ ss, s.d = d := fun {f d} hd => by
    rw [hp, List.getElem?_map] at hd
    cases q : ss[f]? with
    | none => rw [q] at hd; cases hd
    | some s => rw [q] at hd; cases hd; exact ⟨s, List.mem_of_getElem? q, rfl⟩
  refine ⟨fun f d hd => ?_, fun x hx => ?_, gd_ok X G e1 t, gsB_ok X G e1, fun k q hq => ?_, fun i x hi => exc_of X G c e2 i x hi⟩
  · obtain ⟨s, hm, rfl⟩ := src hd
    cases hq : s.d.kind with
    | fn =>
      obtain ⟨fd, F⟩ := fn_in (s := s) lm X G c ok bd hm (by unfold isMk; rw [hq])
      exact ⟨_, fd, _, _, _, F⟩
    | meth c' =>
      obtain ⟨fd, F⟩ := fn_in (s := s) lm X G c ok bd hm (by unfold isMk; rw [hq])
      exact ⟨_, fd, _, _, _, F⟩
    | mk c' fi =>
      have k := List.all_eq_true.mp ok s hm
      unfold Src.okB at k
      rw [hq] at k
      have k : mkB p s.d c' fi = true := k
      unfold mkB at k
      split at k
      · rename_i d' q c2 fi2 h1 h2 h3
        simp only [Bool.and_eq_true, decide_eq_true_eq] at k
        obtain ⟨rfl, rfl, k3, k4, k5, k6, k7⟩ := k
        obtain ⟨s', hm', rfl⟩ := src h1
        have k8 : s'.d.kind = .meth c2 := by
          cases z : s'.d.kind with
          | meth c3 => rw [z] at k7; rw [of_decide_eq_true k7]
          | _ => rw [z] at k7; cases k7
        obtain ⟨fd, F⟩ := fn_in (s := s') lm X G c ok bd hm' (by unfold isMk; rw [k8])
        have ecl : clsN p c2 = tx s.d.name := by unfold clsN; rw [h2, k6]
        have eI : fAt p K s'.d = He.ma K (He.ga K (tx s.d.name)) "__init__" := by unfold fAt; rw [k8]; show He.ma K (He.ga K (clsN p c2)) _ = _; rw [ecl, k5]
        refine ⟨s'.d, fAt p K s'.d, fd, h1, h3, k3, k4, ?_, ⟨_, _, _, F⟩, ?_⟩
        · rw [eI]
          show Mk K (He.ga K (clsN p c2)) _
          rw [ecl]
          exact He.mkr_ok (fa_f c hm (by unfold faF; rw [hq]; simp))
        · show _ = some (Value.ref (He.ga K (clsN p c2)))
          rw [ecl]
          exact He.glo_ok X G (fa_f c hm (by unfold faF; rw [hq]; simp))
      · cases k
  · exact He.free_ok X G (fact_mem c (List.mem_append_left _ (List.mem_append_right _ (List.mem_map.mpr ⟨x, hx, rfl⟩))))
  · have e : clsN p k = tx q.1 := by unfold clsN; rw [hq]
    have hm := List.mem_of_getElem? hq
    refine ⟨?_, fun f hf => ?_⟩
    · show Cls K (He.ga K (clsN p k))
      rw [e]
      exact He.cls_ok (fa_c c hm (by simp [faC]))
    · show NoAttr K (He.ga K (clsN p k)) _
      rw [e]
      exact He.noat_ok (fa_c c hm (by unfold faC; exact List.mem_cons_of_mem _ (List.mem_map.mpr ⟨f, hf, rfl⟩)))
theorem script_ok {g : Gd} {N f : Nat} {d : Def} (hd : p.fns[f]? = some d) (h1 : d.ps.length = 1) {H : Hp} {a : Addr} {ns : List Int} (hl : ns.length ≤ 63) (ht : ∀ q ∈ g.tb, H q.1 = some (.tbl #[]))
    (L : ∃ st', callN p N f [.lst (ns.map .int)] [] = .ok (.bl true) st') (hS : (∃ o, H a = some (.frz o (.lst (ns.map V.int)))) ∨ KLst g.K a (ns.map V.int)) : spF g p N f [.ref a] H (fun v _ => v = .bl true) fun _ _ _ => False := by
  obtain ⟨st', e⟩ := L
  have ri : ∀ ns : List Int, Rels g [] H (ns.map .int) (ns.map V.int) := fun ns => by
    induction ns with
    | nil => exact .nil
    | cons n r ih => exact .cons (by simp only [Rel]) ih
  refine ⟨[], [], [.lst (ns.map .int)], ⟨rfl, List.nodup_nil, fun n o a q => by simp at q, fun q hq => ⟨List.not_mem_nil, #[], ht q hq, trivial, fun pos cv z => ?_⟩⟩, .cons ?_ .nil, ⟨d, hd, h1.symm⟩, ?_⟩
  · simp [codeAmong] at z
  · simp only [Rel]
    exact ⟨a, _, rfl, hS, by rw [List.length_map]; exact Nat.le_trans hl (by decide), ri ns⟩
  · rw [e]
    intro ρ' H' _ _ V r
    simpa only [Rel] using r
theorem script_okL {g : Gd} {N f : Nat} {d : Def} (hd : p.fns[f]? = some d) (h1 : d.ps.length = 1) {H : Hp} {a : Addr} {ns : List Int} (hl : ns.length ≤ 63) (ht : ∀ q ∈ g.tb, H q.1 = some (.tbl #[]))
    (L : ∃ st', callN p N f [.lst (ns.map .int)] [] = .ok (.bl true) st') (hS : SqL g.K H a (ns.map V.int)) : spL g p N f [.ref a] H (fun v _ => v = .bl true) fun _ _ _ => False := by
  rcases hS with (z | z) | z
  · refine .inr ⟨a, _, z, fun od => script_ok hd h1 hl (fun q hq => ?_) L (.inl ⟨od, upd_same⟩)⟩
    have k := ht q hq
    rw [upd_ne (fun e => by rw [e, z] at k; cases k)]
    exact k
  · exact .inl (script_ok hd h1 hl ht L (.inl z))
  · exact .inl (script_ok hd h1 hl ht L (.inr z))
theorem walk_end {l : PySem.W.OpenLaw} {q : Program} {loose : List Str} {XP : (Str → Option Value) → Heap → Prop} {d : DefRec} {n N f : Nat} {df : Def} {x : Txt} {tf : List Txt}
    (hn : l.most = some 63) (hdf : d.params.defaults = []) (hr : Room (N + 1) callerA) (hp : p.fns = ss.map (·.d)) (hf : p.fns[f]? = some df) (hx : df.ps = [x]) (hnm : d.name = tx df.name) (hkd : df.kind = .fn)
    (ok : ss.all (Src.okB p) = true) (bd : BdAll p ss) (ht : tf.length ≤ 1) (hlm : ss.all (fun s => !s.d.lam || (tf.contains s.d.name && match s.d.kind with | .fn => true | _ => false)) = true)
    (L : ∀ ns : List Int, ns.length ≤ 63 → ∃ st', callN p (N + 1) f [.lst (ns.map .int)] [] = .ok (.bl true) st') :
    PySem.W.WalkO q loose XP (He.hookX n (faOf p ss) (dds p ss) (tabs p) (tf.map fun t => (tx t, none)) (exB p)).says l.row.toRowW d [] (fun f vs => PySem.call f vs) := by
  refine LamX.walk_ofTsE (k := N + 1) (CX := fun w => L2.CX l.prog w) (x := tx x) hn (by decide) hdf hr (fun w mg fa h Y G hmg => ?_) fun w H s e' s' z => ?_
  · obtain ⟨K, KX, cx⟩ := Y
    have c := cx.t.d
    refine ⟨K, KX, ?_⟩
    let tb : List (Addr × Str) := tf.map fun t => ((He.cT K (tx t, none)).2, (tx t ++ (".<locals>." : Str)) ++ ("<lambda>" : Str))
    let cs : List (Addr × Addr) := tf.map fun t => He.cT K (tx t, none)
    have lm : LmOk K p tb cs ss := fun s hs hl => by
      have hm := List.all_eq_true.mp hlm s hs
      rw [hl] at hm
      obtain ⟨hm, hk⟩ := He.ba (show (tf.contains s.d.name && match s.d.kind with | .fn => true | _ => false) = true by simpa using hm)
      have hk : s.d.kind = .fn := by
        cases z : s.d.kind with
        | fn => rfl
        | _ => rw [z] at hk; cases hk
      have hm : s.d.name ∈ tf := by simpa using hm
      have eq : lamN p s.d = (tx s.d.name ++ (".<locals>." : Str)) ++ ("<lambda>" : Str) := by unfold lamN qualOf; rw [hk]
      refine ⟨hk, List.mem_map.mpr ⟨_, hm, rfl⟩, List.mem_map.mpr ⟨_, hm, by rw [eq]⟩, fun q hq _ => ?_⟩
      obtain ⟨t, ht', rfl⟩ := List.mem_map.mp hq
      have e : t = s.d.name := by
        match tf, ht, hm, ht' with
        | [z], _, h1, h2 => rw [List.mem_singleton.mp h1, List.mem_singleton.mp h2]
      rw [e, eq]
    have S : Prgs cs ⟨K, caOf p K, xcOf p K, tb⟩ mg p w := prgs_of tb cs lm KX G cx.t c hp ok bd cx.more
    obtain ⟨s, hs, rfl, hsf⟩ : ∃ s ∈ ss, s.d = df ∧ ss[f]? = some s := by
      rw [hp, List.getElem?_map] at hf
      cases q : ss[f]? with
      | none => rw [q] at hf; cases hf
      | some s => rw [q] at hf; cases hf; exact ⟨s, List.mem_of_getElem? q, rfl, rfl⟩
    have hmk : isMk s.d = false := by unfold isMk; rw [hkd]
    obtain ⟨fd2, FI⟩ := fn_in (s := s) lm KX G c ok bd hs hmk
    have e2 : fAt p K s.d = fa := by
      have e1 := FI.at_
      rw [hkd] at e1
      have e1 : mg (tx s.d.name) = some (.ref (fAt p K s.d)) := e1
      rw [← hnm, hmg] at e1
      cases e1; rfl
    rw [e2] at FI
    have b1 : s.bd p := by
      rcases bd.all s hs with z | z
      · rw [hmk] at z; cases z
      · exact z
    have b := FunD.bindsA FI.fn b1
    have inT : ∀ {P : Addr × Addr → Prop}, (∀ t ∈ tf.map fun t => ((tx t, none) : He.Defn), P (He.cT K t)) → ∀ q ∈ cs, P q := fun {P} h q hq => by
      obtain ⟨t, ht', rfl⟩ := List.mem_map.mp hq
      exact h _ (List.mem_map.mpr ⟨t, ht', rfl⟩)
    refine ⟨fd2, cs, spL ⟨K, caOf p K, xcOf p K, tb⟩ p (N + 1) f, inT cx.empty, inT cx.out, inT fun t h => PySem.W.codeHd_of_K KX (cx.hd t h), fun sh u => ?_, fun H a ns hlen _ hT hS => ?_, fun base hb hns hTB => ?_⟩
    · have := b sh [u] (by rw [hx]; rfl)
      rw [hx] at this
      exact this
    · refine script_okL hf (by rw [hx]; rfl) hlen (fun q hq => ?_) (L ns hlen) hS
      obtain ⟨t, ht', rfl⟩ := List.mem_map.mp hq
      exact hT _ (List.mem_map.mpr ⟨t, ht', rfl⟩)
    · have := fn_law (P := l.prog) (w := w) (base := base) hTB S (n := N) hf FI
      rw [hx] at this
      exact this
  · obtain ⟨_, _, _, _, _, _, _, _, _, _, _, _, z⟩ := z
    exact z
end
end Mi
namespace Mi

/-! the plain law: rules for what an expression, a statement comes to -/
def RetD {α : Type} (E : Exn → Store → Prop) (r : Res α) (Q : α → Store → Prop) : Prop := match r with
  | .ok v st => Q v st
  | .ex x st => E x st
  | .no => False
/-- shut: no term in brackets goes in by itself -/
inductive RetX {α : Type} (E : Exn → Store → Prop) (r : Res α) (Q : α → Store → Prop) : Prop where
  | mk (h : RetD E r Q)
  | mk2 (h : RetD E r Q)
theorem RetX.out {α : Type} {E : Exn → Store → Prop} {r : Res α} {Q : α → Store → Prop} (h : RetX E r Q) : RetD E r Q := by
  cases h with
  | mk h => exact h
  | mk2 h => exact h
/-- no exception -/
abbrev Ret {α : Type} (r : Res α) (Q : α → Store → Prop) : Prop := RetX (fun _ _ => False) r Q
structure De where
  nx : Env → Store → Prop
  rt : Val → Store → Prop
  bk : Env → Store → Prop := fun _ _ => False
  ct : Env → Store → Prop := fun _ _ => False
  xc : Env → Exn → Store → Prop := fun _ _ _ => False
def FlPD (f : Fl) (D : De) : Prop := match f with
  | .nx η st => D.nx η st
  | .rt v st => D.rt v st
  | .bk η st => D.bk η st
  | .ct η st => D.ct η st
  | .xc x η st => D.xc η x st
  | .no => False
inductive FlP (f : Fl) (D : De) : Prop where
  | mk (h : FlPD f D)
  | mk2 (h : FlPD f D)
theorem FlP.out {f : Fl} {D : De} (h : FlP f D) : FlPD f D := by
  cases h with
  | mk h => exact h
  | mk2 h => exact h
section
variable {α β : Type} {r : Res α} {Q R : α → Store → Prop} {η : Env} {st : Store} {C : Itp} {E F : Exn → Store → Prop}
theorem RetX.imp (h : RetX E r Q) (i : ∀ v st, Q v st → R v st) : RetX E r R := by
  cases r with
  | ok v st => exact .mk (i _ _ h.out)
  | ex _ _ => exact .mk h.out
  | no => exact h.out.elim
theorem RetX.impX (h : RetX E r Q) (i : ∀ v st, Q v st → R v st) (j : ∀ x st, E x st → F x st) : RetX F r R := by
  cases r with
  | ok v st => exact .mk (i _ _ h.out)
  | ex _ _ => exact .mk (j _ _ h.out)
  | no => exact h.out.elim
theorem RetX.any (h : Ret r Q) : RetX E r Q := h.impX (fun _ _ h => h) fun _ _ h => h.elim
theorem RetX.ex (h : Ret r Q) : ∃ v st, r = .ok v st ∧ Q v st := by
  cases r with
  | ok v st => exact ⟨v, st, rfl, h.out⟩
  | ex _ _ => exact h.out.elim
  | no => exact h.out.elim
theorem ret_ok {v : α} (h : Q v st) : RetX E (.ok v st) Q := .mk h
theorem ret_bind {f : α → Store → Res β} {S : β → Store → Prop} (h : RetX E r fun v st => RetX E (f v st) S) : RetX E (r.bind f) S := by
  cases r with
  | ok v st => exact h.out
  | ex _ _ => exact .mk h.out
  | no => exact h.out.elim
theorem ret_bindN {f : α → Store → Res β} {S : β → Store → Prop} (h : Ret r fun v st => Ret (f v st) S) : Ret (r.bindN f) S := by
  cases r with
  | ok v st => exact h.out
  | ex _ _ => exact h.out.elim
  | no => exact h.out.elim
theorem ret_opt {o : Option α} {v : α} (e : o = some v) (h : Q v st) : RetX E (opt o st) Q := by subst e; exact .mk h
theorem fl_of {D : De} {k : α → Store → Fl} (h : RetX (D.xc η) r fun v st => FlP (k v st) D) : FlP (r.fl η k) D := by
  cases r with
  | ok v st => exact h.out
  | ex _ _ => exact .mk h.out
  | no => exact h.out.elim
end

section
variable {Q : Val → Store → Prop} {S : List Val → Store → Prop} {T : Bool → Store → Prop} {I : List Val × Option Nat → Store → Prop} {O : Option Int → Store → Prop} {η : Env} {st : Store} {C : Itp} {D : De} {E : Exn → Store → Prop}
noncomputable abbrev V (C : Itp) (e : Ex) (η : Env) (st : Store) : Res Val := (evA C e).v η st
noncomputable abbrev A (C : Itp) (e : Ex) (η : Env) (st : Store) : Res (List Val) := (evA C e).s η st
noncomputable abbrev B (C : Itp) (e : Ex) (η : Env) (st : Store) : Res Bool := (evA C e).t η st
noncomputable abbrev It (C : Itp) (e : Ex) (η : Env) (st : Store) : Res (List Val × Option Nat) := (evA C e).i η st
theorem v_var {i : Nat} {v : Val} (h : η[i]? = some (some v)) (q : Q v st) : RetX E (V C (.var i) η st) Q := by
  simp only [V, evA, plain, h]; exact ret_ok q
theorem v_lit {v : Val} (q : Q v st) : RetX E (V C (.lit v) η st) Q := ret_ok q
theorem v_tup {as : Ex} (h : RetX E (A C as η st) fun vs st => vs.length ≤ PySem.sizeLine ∧ Q (.tup vs) st) : RetX E (V C (.tup as) η st) Q := by
  refine ret_bind (h.imp fun vs st q => ?_)
  rw [if_pos q.1]; exact ret_ok q.2
theorem v_lst {as : Ex} (h : RetX E (A C as η st) fun vs st => vs.length ≤ PySem.sizeLine ∧ Q (.lst vs) st) : RetX E (V C (.lst as) η st) Q := by
  refine ret_bind (h.imp fun vs st q => ?_)
  rw [if_pos q.1]; exact ret_ok q.2
theorem v_new {as : Ex} (h : RetX E (A C as η st) fun vs st => vs.length ≤ PySem.sizeLine ∧ Q (.loc st.length) (st ++ [.lst vs])) : RetX E (V C (.new as) η st) Q := by
  refine ret_bind (h.imp fun vs st q => ?_)
  rw [if_pos q.1]; exact ret_ok q.2
theorem v_dsp {as : Ex} (h : RetX E (A C as η st) fun vs st => ∃ p, pairUp vs = some p ∧ p.1.length ≤ 15 ∧ Q (.dct (putAll p.1 p.2 ([], [])).1 (putAll p.1 p.2 ([], [])).2) st) : RetX E (V C (.dsp as) η st) Q := by
  refine ret_bind (h.imp fun vs st q => ?_)
  obtain ⟨p, e, l, q⟩ := q
  simp only [e, if_pos l]; exact ret_ok q
theorem v_dnew {as : Ex} (h : RetX E (A C as η st) fun vs st => ∃ p, pairUp vs = some p ∧ p.1.length ≤ 15 ∧ Q (.loc st.length) (st ++ [.dct (putAll p.1 p.2 ([], [])).1 (putAll p.1 p.2 ([], [])).2])) : RetX E (V C (.dnew as) η st) Q := by
  refine ret_bind (h.imp fun vs st q => ?_)
  obtain ⟨p, e, l, q⟩ := q
  simp only [e, if_pos l]; exact ret_ok q
theorem v_dnew2 {as : Ex} {ks : List Txt} {xs : List Val} {D : List Txt × List Val} (h : RetX E (A C as η st) fun vs st => pairUp vs = some (ks, xs) ∧ ks.length ≤ 15 ∧ putAll ks xs ([], []) = D ∧ Q (.loc st.length) (st ++ [.dct D.1 D.2])) : RetX E (V C (.dnew as) η st) Q :=
  v_dnew (h.imp fun vs st ⟨e, l, f, q⟩ => ⟨_, e, l, by rw [f]; exact q⟩)
theorem v_dsp2 {as : Ex} {ks : List Txt} {xs : List Val} {D : List Txt × List Val} (h : RetX E (A C as η st) fun vs st => pairUp vs = some (ks, xs) ∧ ks.length ≤ 15 ∧ putAll ks xs ([], []) = D ∧ Q (.dct D.1 D.2) st) : RetX E (V C (.dsp as) η st) Q :=
  v_dsp (h.imp fun vs st ⟨e, l, f, q⟩ => ⟨_, e, l, by rw [f]; exact q⟩)
theorem a_nil (q : S [] st) : RetX E (A C .nil η st) S := ret_ok q
theorem a_cons {a as : Ex} (h : RetX E (V C a η st) fun v st => RetX E (A C as η st) fun vs st => S (v :: vs) st) : RetX E (A C (.cons a as) η st) S := ret_bind (h.imp fun _ _ q => ret_bind (q.imp fun _ _ q => ret_ok q))
theorem v_bin {o : BO} {a b : Ex} (h : RetX E (V C a η st) fun x st => RetX E (V C b η st) fun y st => ∃ z, binV st o x y = some z ∧ Q z st) : RetX E (V C (.bin o a b) η st) Q :=
  ret_bind (h.imp fun _ _ q => ret_bind (q.imp fun _ _ ⟨z, e, q⟩ => ret_opt e q))
theorem v_cmp {o : CO} {a b : Ex} (h : RetX E (V C a η st) fun x st => RetX E (V C b η st) fun y st => ∃ z, cmpV st o x y = some z ∧ Q (.bl z) st) : RetX E (V C (.cmp o a b) η st) Q :=
  ret_bind (h.imp fun _ _ q => ret_bind (q.imp fun _ _ ⟨z, e, q⟩ => ret_opt (by rw [e]; rfl) q))
theorem v_chain {o1 o2 : CO} {a b c : Ex} (h : RetX E (V C a η st) fun x st => RetX E (V C b η st) fun y st => ∃ z, cmpV st o1 x y = some z ∧ (z = true → RetX E (V C c η st) fun w st => ∃ u, cmpV st o2 y w = some u ∧ Q (.bl u) st) ∧ (z = false → Q (.bl false) st)) : RetX E (V C (.chain o1 o2 a b c) η st) Q :=
  ret_bind (h.imp fun _ _ q => ret_bind (q.imp fun y st ⟨z, e, q1, q2⟩ => by
    cases z with
    | true => simp only [e]; exact ret_bind ((q1 rfl).imp fun _ _ ⟨u, e, q⟩ => ret_opt (by rw [e]; rfl) q)
    | false => simp only [e]; exact ret_ok (q2 rfl)))
theorem v_neg {a : Ex} (h : RetX E (V C a η st) fun x st => ∃ i, x = .int i ∧ Q (.int (-i)) st) : RetX E (V C (.neg a) η st) Q :=
  ret_bind (h.imp fun _ _ ⟨i, e, q⟩ => by subst e; exact ret_ok q)
theorem v_ite {c a b : Ex} (h : RetX E (B C c η st) fun t st => (t = true → RetX E (V C a η st) Q) ∧ (t = false → RetX E (V C b η st) Q)) : RetX E (V C (.ite c a b) η st) Q :=
  ret_bind (h.imp fun t _ q => by
    cases t with
    | true => exact q.1 rfl
    | false => exact q.2 rfl)
theorem v_and {a b : Ex} (h : RetX E (V C a η st) fun x st => ∃ t, x = .bl t ∧ (t = true → RetX E (V C b η st) Q) ∧ (t = false → Q (.bl false) st)) : RetX E (V C (.and a b) η st) Q :=
  ret_bind (h.imp fun x _ ⟨t, e, q1, q2⟩ => by
    subst e
    cases t with
    | true => exact q1 rfl
    | false => exact ret_ok (q2 rfl))
theorem v_or {a b : Ex} (h : RetX E (V C a η st) fun x st => ∃ t, x = .bl t ∧ (t = false → RetX E (V C b η st) Q) ∧ (t = true → Q (.bl true) st)) : RetX E (V C (.or a b) η st) Q :=
  ret_bind (h.imp fun x _ ⟨t, e, q1, q2⟩ => by
    subst e
    cases t with
    | true => exact ret_ok (q2 rfl)
    | false => exact q1 rfl)
theorem v_not {a : Ex} (h : RetX E (V C a η st) fun x st => ∃ t, x = .bl t ∧ Q (.bl !t) st) : RetX E (V C (.not a) η st) Q :=
  ret_bind (h.imp fun x _ ⟨t, e, q⟩ => by subst e; exact ret_ok q)
theorem v_isN {yes : Bool} {a : Ex} (h : RetX E (V C a η st) fun x st => (x = .non → Q (.bl yes) st) ∧ (x ≠ .non → Q (.bl !yes) st)) : RetX E (V C (.isN yes a) η st) Q :=
  ret_bind (h.imp fun x _ q => by
    cases x with
    | non => exact ret_ok (q.1 rfl)
    | _ => exact ret_ok (q.2 (by intro h; cases h)))
theorem v_ix {a b : Ex} (h : RetX E (V C a η st) fun x st => RetX E (V C b η st) fun y st => ∃ z, ixV st x y = some z ∧ Q z st) : RetX E (V C (.ix a b) η st) Q :=
  ret_bind (h.imp fun _ _ q => ret_bind (q.imp fun _ _ ⟨z, e, q⟩ => ret_opt e q))
theorem v_fn {f : FO} {as : Ex} (h : RetX E (A C as η st) fun vs st => ∃ z, fnV st f vs = some z ∧ Q z st) : RetX E (V C (.fn f as) η st) Q :=
  ret_bind (h.imp fun _ _ ⟨z, e, q⟩ => ret_opt e q)
theorem v_isi {t : TyN} {a : Ex} (h : RetX E (V C a η st) fun x st => ∃ z, isiV t x = some z ∧ Q (.bl z) st) : RetX E (V C (.isi t a) η st) Q :=
  ret_bind (h.imp fun _ _ ⟨z, e, q⟩ => ret_opt (by rw [e]; rfl) q)
theorem v_call {f : Nat} {as : Ex} (h : RetX E (A C as η st) fun vs st => RetX E (C.C f vs st) Q) : RetX E (V C (.call f as) η st) Q := ret_bind h
theorem v_mt {m : MO} {o as : Ex} (h : RetX E (V C o η st) fun x st => mtOk m x st = true ∧ RetX E (A C as η st) fun vs st => ∃ z, mtV m x vs st = some z ∧ Q z.1 z.2) : RetX E (V C (.mt m o as) η st) Q :=
  ret_bind (h.imp fun x st1 ⟨k, q⟩ => by
    rw [if_pos k]
    exact ret_bind (q.imp fun vs st ⟨z, e, q⟩ => by simp only [e]; exact ret_ok q))
theorem v_lc {vs : List Nat} {tg : Tg} {it c e : Ex} (h : RetX E (It C it η st) fun p st => Ret (lcLoop (ckOf p.2 p.1) tg (wipeE η vs) (evA C c).t (evA C e).v p.1 [] st) fun xs st => Q (.lst xs) st) : RetX E (V C (.lc vs tg it c e) η st) Q :=
  ret_bind (h.imp fun _ _ q => ret_bind (q.any.imp fun _ _ q => ret_ok q))
theorem v_lcn {vs : List Nat} {tg : Tg} {it c e : Ex} (h : RetX E (It C it η st) fun p st => Ret (lcLoop (ckOf p.2 p.1) tg (wipeE η vs) (evA C c).t (evA C e).v p.1 [] st) fun xs st => Q (.loc st.length) (st ++ [.lst xs])) : RetX E (V C (.lcn vs tg it c e) η st) Q :=
  ret_bind (h.imp fun _ _ q => ret_bind (q.any.imp fun _ _ q => ret_ok q))
theorem v_dcpy {a : Ex} (h : RetX E (V C a η st) fun x st => ∃ p, asD st x = some p ∧ Q (.loc st.length) (st ++ [.dct p.1 p.2])) : RetX E (V C (.dcpy a) η st) Q :=
  ret_bind (h.imp fun x st ⟨p, e, q⟩ => by simp only [dictV, e]; exact ret_ok q)
theorem v_sortK {a : Ex} (h : RetX E (V C a η st) fun x st => ∃ xs ps, asL st x = some xs ∧ rowsOf xs = some ps ∧ (ps.map (·.1)).Nodup ∧ Q (.lst ((sortKs ps).map (·.2))) st) : RetX E (V C (.sortK a) η st) Q :=
  ret_bind (h.imp fun x st ⟨xs, ps, e1, e2, nd, q⟩ => by simp only [e1, e2, Option.bind, if_pos nd]; exact ret_ok q)
theorem v_lnew {a : Ex} (h : RetX E (V C a η st) fun x st => ∃ xs, listV st x = some xs ∧ Q (.loc st.length) (st ++ [.lst xs])) : RetX E (V C (.lnew a) η st) Q :=
  ret_bind (h.imp fun x st ⟨p, e, q⟩ => by simp only [e]; exact ret_ok q)
/-! tests -/
theorem b_of {v : Env → Store → Res Val} (h : RetX E (v η st) fun x st => ∃ b, x = .bl b ∧ T b st) : RetX E ((plain v).t η st) T :=
  ret_bind (h.imp fun x _ ⟨b, e, q⟩ => by subst e; exact ret_ok q)
theorem b_cmp {o : CO} {a b : Ex} (h : RetX E (V C a η st) fun x st => RetX E (V C b η st) fun y st => ∃ z, cmpV st o x y = some z ∧ T z st) : RetX E (B C (.cmp o a b) η st) T :=
  b_of (v_cmp (C := C) (h.imp fun _ _ q => q.imp fun _ _ ⟨z, e, q⟩ => ⟨z, e, z, rfl, q⟩))
theorem b_and {a b : Ex} (h : RetX E (B C a η st) fun t st => (t = true → RetX E (B C b η st) T) ∧ (t = false → T false st)) : RetX E (B C (.and a b) η st) T :=
  ret_bind (h.imp fun t _ ⟨q1, q2⟩ => by
    cases t with
    | true => exact q1 rfl
    | false => exact ret_ok (q2 rfl))
theorem b_or {a b : Ex} (h : RetX E (B C a η st) fun t st => (t = false → RetX E (B C b η st) T) ∧ (t = true → T true st)) : RetX E (B C (.or a b) η st) T :=
  ret_bind (h.imp fun t _ ⟨q1, q2⟩ => by
    cases t with
    | true => exact ret_ok (q2 rfl)
    | false => exact q1 rfl)
theorem b_not {a : Ex} (h : RetX E (B C a η st) fun t st => T (!t) st) : RetX E (B C (.not a) η st) T := ret_bind (h.imp fun _ _ q => ret_ok q)
theorem b_call {f : Nat} {as : Ex} (h : RetX E (A C as η st) fun vs st => RetX E (C.C f vs st) fun x st => ∃ b, x = .bl b ∧ T b st) : RetX E (B C (.call f as) η st) T := b_of (v_call (C := C) h)
theorem b_isi {t : TyN} {a : Ex} (h : RetX E (V C a η st) fun x st => ∃ z, isiV t x = some z ∧ T z st) : RetX E (B C (.isi t a) η st) T :=
  b_of (v_isi (C := C) (h.imp fun _ _ ⟨z, e, q⟩ => ⟨z, e, z, rfl, q⟩))
theorem b_lit {b : Bool} (q : T b st) : RetX E (B C (.lit (.bl b)) η st) T := ret_ok q
theorem b_var {i : Nat} {b : Bool} (h : η[i]? = some (some (.bl b))) (q : T b st) : RetX E (B C (.var i) η st) T := b_of (v_var (C := C) h ⟨b, rfl, q⟩)
theorem b_isN {yes : Bool} {a : Ex} (h : RetX E (V C a η st) fun x st => (x = .non → T yes st) ∧ (x ≠ .non → T (!yes) st)) : RetX E (B C (.isN yes a) η st) T :=
  b_of (v_isN (C := C) (h.imp fun x st ⟨q1, q2⟩ => ⟨fun e => ⟨_, rfl, q1 e⟩, fun e => ⟨_, rfl, q2 e⟩⟩))
theorem b_chain {o1 o2 : CO} {a b c : Ex} (h : RetX E (V C a η st) fun x st => RetX E (V C b η st) fun y st => ∃ z, cmpV st o1 x y = some z ∧ (z = true → RetX E (V C c η st) fun w st => ∃ u, cmpV st o2 y w = some u ∧ T u st) ∧ (z = false → T false st)) : RetX E (B C (.chain o1 o2 a b c) η st) T :=
  b_of (v_chain (C := C) (h.imp fun _ _ q => q.imp fun _ _ ⟨z, e, q1, q2⟩ => ⟨z, e, fun k => (q1 k).imp fun _ _ ⟨u, e, q⟩ => ⟨u, e, u, rfl, q⟩, fun k => ⟨_, rfl, q2 k⟩⟩))
theorem b_mt {m : MO} {o as : Ex} (h : RetX E (V C o η st) fun x st => mtOk m x st = true ∧ RetX E (A C as η st) fun vs st => ∃ z, mtV m x vs st = some z ∧ ∃ b, z.1 = .bl b ∧ T b z.2) : RetX E (B C (.mt m o as) η st) T :=
  b_of (v_mt (C := C) h)
theorem b_fn {f : FO} {as : Ex} (h : RetX E (A C as η st) fun vs st => ∃ b, fnV st f vs = some (.bl b) ∧ T b st) : RetX E (B C (.fn f as) η st) T :=
  b_of (v_fn (C := C) (h.imp fun _ _ ⟨z, e, q⟩ => ⟨_, e, z, rfl, q⟩))
/-! what is walked -/
theorem i_of {v : Env → Store → Res Val} (h : RetX E (v η st) fun x st => ∃ p, itemsOf st x = some p ∧ I p st) : RetX E ((plain v).i η st) I :=
  ret_bind (h.imp fun x _ ⟨p, e, q⟩ => ret_opt e q)
theorem i_var {i : Nat} {v : Val} (h : η[i]? = some (some v)) (q : ∃ p, itemsOf st v = some p ∧ I p st) : RetX E (It C (.var i) η st) I := i_of (v_var (C := C) h q)
theorem i_ix {a b : Ex} (h : RetX E (V C (.ix a b) η st) fun x st => ∃ p, itemsOf st x = some p ∧ I p st) : RetX E (It C (.ix a b) η st) I := i_of h
theorem i_fn {f : FO} {as : Ex} (h : RetX E (V C (.fn f as) η st) fun x st => ∃ p, itemsOf st x = some p ∧ I p st) : RetX E (It C (.fn f as) η st) I := i_of h
theorem i_call {f : Nat} {as : Ex} (h : RetX E (V C (.call f as) η st) fun x st => ∃ p, itemsOf st x = some p ∧ I p st) : RetX E (It C (.call f as) η st) I := i_of h
theorem i_bin {o : BO} {a b : Ex} (h : RetX E (V C (.bin o a b) η st) fun x st => ∃ p, itemsOf st x = some p ∧ I p st) : RetX E (It C (.bin o a b) η st) I := i_of h
theorem i_sortK {a : Ex} (h : RetX E (V C (.sortK a) η st) fun x st => ∃ p, itemsOf st x = some p ∧ I p st) : RetX E (It C (.sortK a) η st) I := i_of h
theorem i_mt {m : MO} {o as : Ex} (h : RetX E (V C (.mt m o as) η st) fun x st => ∃ p, itemsOf st x = some p ∧ I p st) : RetX E (It C (.mt m o as) η st) I := i_of h
theorem i_sl {a lo hi : Ex} (h : RetX E (V C (.sl a lo hi) η st) fun x st => ∃ p, itemsOf st x = some p ∧ I p st) : RetX E (It C (.sl a lo hi) η st) I := i_of h
theorem i_lc {vs : List Nat} {tg : Tg} {it c e : Ex} (h : RetX E (V C (.lc vs tg it c e) η st) fun x st => ∃ p, itemsOf st x = some p ∧ I p st) : RetX E (It C (.lc vs tg it c e) η st) I := i_of h
theorem i_tup {as : Ex} (h : RetX E (V C (.tup as) η st) fun x st => ∃ p, itemsOf st x = some p ∧ I p st) : RetX E (It C (.tup as) η st) I := i_of h
theorem b_ix {a b : Ex} (h : RetX E (V C (.ix a b) η st) fun x st => ∃ b, x = .bl b ∧ T b st) : RetX E (B C (.ix a b) η st) T := b_of h
theorem i_rng {a : Ex} (h : RetX E (V C a η st) fun x st => ∃ n : Int, x = .int n ∧ (-(2 ^ 24) < n ∧ n < 2 ^ 24) ∧ I ((List.range n.toNat).map fun (k : Nat) => Val.int k, none) st) : RetX E (It C (.rng1 a) η st) I :=
  ret_bind (h.imp fun x _ ⟨n, e, l, q⟩ => by
    subst e
    show RetX E (if -(2 ^ 24) < n ∧ n < 2 ^ 24 then _ else _) I
    rw [if_pos l]; exact ret_ok q)
/-! statements -/
theorem t_seq {a b : Sm} (h : FlP (exec C a η st) { nx := fun η st => FlP (exec C b η st) D, rt := D.rt, bk := D.bk, ct := D.ct, xc := D.xc }) : FlP (exec C (.seq a b) η st) D := by
  show FlP ((exec C a η st).then (exec C b)) D
  cases e : exec C a η st with
  | nx η st => rw [e] at h; exact h.out
  | rt v st => rw [e] at h; exact .mk h.out
  | bk η st => rw [e] at h; exact .mk h.out
  | ct η st => rw [e] at h; exact .mk h.out
  | xc x η st => rw [e] at h; exact .mk h.out
  | no => rw [e] at h; exact h.out.elim
theorem t_skip (h : D.nx η st) : FlP (exec C .skip η st) D := .mk h
theorem t_asg {i : Nat} {e : Ex} (h : RetX (D.xc η) (V C e η st) fun v st => D.nx (η.set i (some v)) st) : FlP (exec C (.asg i e) η st) D := fl_of (h.imp fun _ _ q => .mk q)
theorem t_asgT {tg : Tg} {e : Ex} (h : RetX (D.xc η) (V C e η st) fun v st => ∃ η', asgTg tg v η = some η' ∧ D.nx η' st) : FlP (exec C (.asgT tg e) η st) D :=
  fl_of (h.imp fun _ _ ⟨η', e, q⟩ => by simp only [e]; exact .mk q)
theorem t_put {o k e : Ex} (h : RetX (D.xc η) (V C e η st) fun v st => RetX (D.xc η) (V C o η st) fun x st => RetX (D.xc η) (V C k η st) fun y st => ∃ st', putV x y v st = some st' ∧ D.nx η st') : FlP (exec C (.put o k e) η st) D :=
  fl_of (h.imp fun _ _ q => fl_of (q.imp fun _ _ q => fl_of (q.imp fun _ _ ⟨st', e, q⟩ => by simp only [e]; exact .mk q)))
theorem t_expr {e : Ex} (h : RetX (D.xc η) (V C e η st) fun _ st => D.nx η st) : FlP (exec C (.expr e) η st) D := fl_of (h.imp fun _ _ q => .mk q)
theorem t_ret {e : Ex} (h : RetX (D.xc η) (V C e η st) D.rt) : FlP (exec C (.ret e) η st) D := fl_of (h.imp fun _ _ q => .mk q)
theorem t_ite {c : Ex} {a b : Sm} (h : RetX (D.xc η) (B C c η st) fun t st => (t = true → FlP (exec C a η st) D) ∧ (t = false → FlP (exec C b η st) D)) : FlP (exec C (.ite c a b) η st) D :=
  fl_of (h.imp fun t _ q => by
    cases t with
    | true => exact q.1 rfl
    | false => exact q.2 rfl)
theorem t_for {tg : Tg} {it : Ex} {body : Sm} (h : RetX (D.xc η) (It C it η st) fun p st => FlP (forLoop (ckOf p.2 p.1) tg (exec C body) p.1 η st) D) : FlP (exec C (.for_ tg it body) η st) D := fl_of h
theorem t_frz {i : Nat} {v : Val} {p : Val × Store} (h : η[i]? = some (some v)) (e : frzV 1000 v st = some p) (q : D.nx (η.set i (some p.1)) p.2) : FlP (exec C (.frz i) η st) D := by
  simp only [exec, h, e]; exact .mk q
theorem fl_imp {f : Fl} {D E : De} (h : FlP f D) (h1 : ∀ η st, D.nx η st → E.nx η st) (h2 : ∀ v st, D.rt v st → E.rt v st) (h3 : ∀ η st, D.bk η st → E.bk η st) (h4 : ∀ η st, D.ct η st → E.ct η st) (h5 : ∀ η x st, D.xc η x st → E.xc η x st := by exact fun _ _ _ h => h) : FlP f E := by
  cases f with
  | nx _ _ => exact .mk (h1 _ _ h.out)
  | rt _ _ => exact .mk (h2 _ _ h.out)
  | bk _ _ => exact .mk (h3 _ _ h.out)
  | ct _ _ => exact .mk (h4 _ _ h.out)
  | xc _ _ _ => exact .mk (h5 _ _ _ h.out)
  | no => exact h.out.elim
theorem for_nil {tg : Tg} {K : Env → Store → Fl} (h : D.nx η st) : FlP (forLoop (fun _ => true) tg K [] η st) D := .mk h
theorem for_cons {tg : Tg} {K : Env → Store → Fl} {x : Val} {xs : List Val} {η1 : Env} (e : asgTg tg x η = some η1)
    (h : FlP (K η1 st) { nx := fun η st => FlP (forLoop (fun _ => true) tg K xs η st) D, rt := D.rt, bk := D.nx, ct := fun η st => FlP (forLoop (fun _ => true) tg K xs η st) D, xc := D.xc }) : FlP (forLoop (fun _ => true) tg K (x :: xs) η st) D := by
  simp only [forLoop, if_true, e]
  cases q : K η1 st with
  | nx η st => rw [q] at h; exact h.out
  | rt v st => rw [q] at h; exact .mk h.out
  | bk η st => rw [q] at h; exact .mk h.out
  | ct η st => rw [q] at h; exact h.out
  | xc x η st => rw [q] at h; exact .mk h.out
  | no => rw [q] at h; exact h.out.elim
theorem for_inv {tg : Tg} {K : Env → Store → Fl} (J : Nat → Env → Store → Prop) : ∀ {xs : List Val} {η : Env} {st : Store}, J 0 η st →
    (∀ (k : Nat) (x : Val), xs[k]? = some x → ∀ η st, J k η st → ∃ η1, asgTg tg x η = some η1 ∧ FlP (K η1 st) { nx := J (k + 1), rt := D.rt, bk := D.nx, ct := J (k + 1), xc := D.xc }) →
    (∀ η st, J xs.length η st → D.nx η st) → FlP (forLoop (fun _ => true) tg K xs η st) D := by
  intro xs
  induction xs generalizing J with
  | nil => exact fun j _ f => for_nil (f _ _ j)
  | cons x xs ih =>
    intro η st j s f
    obtain ⟨η1, e, h⟩ := s 0 x rfl η st j
    have next : ∀ η st, J 1 η st → FlP (forLoop (fun _ => true) tg K xs η st) D := fun η st j => ih (fun k => J (k + 1)) j (fun k y hy => s (k + 1) y hy) f
    exact for_cons e (fl_imp h next (fun _ _ h => h) (fun _ _ h => h) next)
theorem call_of {p : Prg} {n f : Nat} {as : List Val} {d : Def} (h : p.fns[f]? = some d) (hl : as.length = d.ps.length)
    (q : FlP (exec ⟨callN p n, p.gs⟩ d.body (as.map some ++ List.replicate (d.ns.length - as.length) none) st) { nx := fun _ st => Q .non st, rt := Q, xc := fun _ => E }) : RetX E (callN p (n + 1) f as st) Q := by
  simp only [callN_succ, h, if_pos hl]
  cases e : exec ⟨callN p n, p.gs⟩ d.body (as.map some ++ List.replicate (d.ns.length - as.length) none) st with
  | nx η st => rw [e] at q; exact ret_ok q.out
  | rt v st => rw [e] at q; exact ret_ok q.out
  | bk η st => rw [e] at q; exact q.out.elim
  | ct η st => rw [e] at q; exact q.out.elim
  | xc x η st => rw [e] at q; exact .mk q.out
  | no => rw [e] at q; exact q.out.elim
/-! comprehensions -/
/-- pure: the store stays -/
theorem lc_pure {tg : Tg} {T : Env → Store → Res Bool} {E : Env → Store → Res Val} (t : Val → Bool) (f : Val → Val) {R : List Val → Store → Prop} : ∀ (xs acc : List Val),
    (∀ x ∈ xs, ∃ η1, asgTg tg x η = some η1 ∧ Ret (T η1 st) (fun b s => b = t x ∧ s = st) ∧ (t x = true → Ret (E η1 st) fun v s => v = f x ∧ s = st)) → acc.length + xs.length ≤ PySem.sizeLine →
    R (acc ++ (xs.filter t).map f) st → Ret (lcLoop (fun _ => true) tg η T E xs acc st) R
  | [], acc, _, _, r => ret_ok (by simpa using r)
  | x :: xs, acc, h, hl, r => by
    obtain ⟨η1, e, hT, hE⟩ := h x (by simp)
    simp only [lcLoop, if_true, e]
    refine ret_bindN (hT.imp fun b s ⟨hb, hs⟩ => ?_)
    rw [hs]
    cases q : t x with
    | false =>
      rw [q] at hb
      subst hb
      exact lc_pure t f xs acc (fun y hy => h y (by simp [hy])) (by simp at hl; omega) (by simpa [q] using r)
    | true =>
      rw [q] at hb
      subst hb
      refine ret_bindN ((hE q).imp fun v s ⟨hv, hs⟩ => ?_)
      rw [hs, hv]
      rw [if_pos (by simp at hl; omega)]
      exact lc_pure t f xs _ (fun y hy => h y (by simp [hy])) (by simp at hl ⊢; omega) (by simpa [q] using r)
/-- no test; an invariant of the store, a property of each element -/
theorem lc_all {tg : Tg} {T : Env → Store → Res Bool} {E : Env → Store → Res Val} (J : Store → Prop) (P : Val → Prop) {R : List Val → Store → Prop} : ∀ (xs acc : List Val) (st : Store), J st →
    (∀ x ∈ xs, ∃ η1, asgTg tg x η = some η1 ∧ (∀ s, T η1 s = .ok true s) ∧ ∀ s, J s → Ret (E η1 s) fun v s => P v ∧ J s) → acc.length + xs.length ≤ PySem.sizeLine → (∀ v ∈ acc, P v) →
    (∀ vs s, J s → (∀ v ∈ vs, P v) → vs.length = acc.length + xs.length → R vs s) → Ret (lcLoop (fun _ => true) tg η T E xs acc st) R
  | [], acc, st, j, _, _, ha, r => ret_ok (r acc st j ha (by simp))
  | x :: xs, acc, st, j, h, hl, ha, r => by
    obtain ⟨η1, e, hT, hE⟩ := h x (by simp)
    simp only [lcLoop, if_true, e, hT]
    refine ret_bindN (r := Res.ok true st) (ret_ok ?_)
    refine ret_bindN ((hE st j).imp fun v s ⟨hv, hs⟩ => ?_)
    rw [if_pos (by simp at hl; omega)]
    refine lc_all J P xs _ s hs (fun y hy => h y (by simp [hy])) (by simp at hl ⊢; omega) (fun y hy => ?_) fun vs s j hv hl => r vs s j hv (by simp at hl ⊢; omega)
    rcases List.mem_append.mp hy with hy | hy
    · exact ha y hy
    · simp at hy; subst hy; exact hv
theorem ckN (xs : List Val) : ckOf none xs = fun _ => true := rfl
end
/-! operations -/
section
variable {st : Store}
theorem bin_mod {i j : Int} (h : 0 < j) : binV st .mod (.int i) (.int j) = some (.int (i % j)) := by simp only [binV, if_pos h]
theorem bin_fdiv {i j : Int} (h : 0 < j) (h2 : j < 2 ^ 200) : binV st .fdiv (.int i) (.int j) = some (.int (i / j)) := by simp only [binV]; rw [if_pos ⟨h, h2⟩]
theorem bin_mul {i j : Int} (h : -(2 ^ 64) < j ∧ j < 2 ^ 64) : binV st .mul (.int i) (.int j) = some (.int (i * j)) := by simp only [binV]; rw [if_pos (.inr h)]
theorem bin_mulL {i j : Int} (h : -(2 ^ 64) < i ∧ i < 2 ^ 64) : binV st .mul (.int i) (.int j) = some (.int (i * j)) := by simp only [binV]; rw [if_pos (.inl h)]
theorem bin_pow {i j : Int} (h : 0 ≤ j ∧ j ≤ 1000000 ∧ -(2 ^ 63) < i ∧ i < 2 ^ 63) : binV st .pow (.int i) (.int j) = some (.int (i ^ j.toNat)) := by simp only [binV]; rw [if_pos h]
theorem cmp_int {i j : Int} : cmpV st .eq (.int i) (.int j) = some (i == j) := rfl
theorem cmp_str {i j : Txt} : cmpV st .eq (.str i) (.str j) = some (i == j) := rfl
end
/-! is True -/
theorem v_isB {Q : Val → Store → Prop} {C : Itp} {E : Exn → Store → Prop} {η : Env} {st : Store} {yes b : Bool} {a : Ex} (h : RetX E (V C a η st) fun x st => ∃ c, x = .bl c ∧ Q (.bl (if yes then c == b else !(c == b))) st) : RetX E (V C (.isB yes b a) η st) Q :=
  ret_bind (h.imp fun x _ ⟨c, e, q⟩ => by subst e; exact ret_ok q)
theorem b_isB {T : Bool → Store → Prop} {C : Itp} {E : Exn → Store → Prop} {η : Env} {st : Store} {yes b : Bool} {a : Ex} (h : RetX E (V C a η st) fun x st => ∃ c, x = .bl c ∧ T (if yes then c == b else !(c == b)) st) : RetX E (B C (.isB yes b a) η st) T :=
  b_of (v_isB (C := C) (h.imp fun x _ ⟨c, e, q⟩ => ⟨c, e, _, rfl, q⟩))
theorem i_lst {C : Itp} {E : Exn → Store → Prop} {η : Env} {st : Store} {I : List Val × Option Nat → Store → Prop} {as : Ex} (h : RetX E (V C (.lst as) η st) fun x st => ∃ p, itemsOf st x = some p ∧ I p st) : RetX E (It C (.lst as) η st) I := i_of h
/-! slices -/
section
variable {Q : Val → Store → Prop} {O : Option Int → Store → Prop} {C : Itp} {E : Exn → Store → Prop} {η : Env} {st : Store}
theorem v_sl {a lo hi : Ex} (h : RetX E (V C a η st) fun x st => RetX E ((evA C lo).o η st) fun l st => RetX E ((evA C hi).o η st) fun u st => ∃ z, slV st x l u = some z ∧ Q z st) : RetX E (V C (.sl a lo hi) η st) Q :=
  ret_bind (h.imp fun _ _ q => ret_bind (q.imp fun _ _ q => ret_bind (q.imp fun _ _ ⟨z, e, q⟩ => ret_opt e q)))
theorem o_nil (q : O none st) : RetX E ((evA C .nil).o η st) O := ret_ok q
theorem o_int {i : Int} (q : O (some i) st) : RetX E ((evA C (.lit (.int i))).o η st) O := ret_ok q
theorem o_of {v : Env → Store → Res Val} (h : RetX E (v η st) fun x st => ∃ i, x = .int i ∧ O (some i) st) : RetX E ((plain v).o η st) O :=
  ret_bind (h.imp fun x _ ⟨i, e, q⟩ => by subst e; exact ret_ok q)
theorem o_var {i : Nat} {n : Int} (h : η[i]? = some (some (.int n))) (q : O (some n) st) : RetX E ((evA C (.var i)).o η st) O := o_of (v_var (C := C) h ⟨_, rfl, q⟩)
theorem o_bin {o : BO} {a b : Ex} (h : RetX E (V C (.bin o a b) η st) fun x st => ∃ i, x = .int i ∧ O (some i) st) : RetX E ((evA C (.bin o a b)).o η st) O := o_of h
end
/-! known tests -/
theorem iteF {P Q : Prop} (h : Q) : (false = true → P) ∧ (false = false → Q) := ⟨fun z => (nomatch z), fun _ => h⟩
theorem iteT {P Q : Prop} (h : P) : (true = true → P) ∧ (true = false → Q) := ⟨fun _ => h, fun z => (nomatch z)⟩
theorem orF {P Q : Prop} (h : P) : (false = false → P) ∧ (false = true → Q) := ⟨fun _ => h, fun z => (nomatch z)⟩
theorem orT {P Q : Prop} (h : Q) : (true = false → P) ∧ (true = true → Q) := ⟨fun z => (nomatch z), fun _ => h⟩
theorem iteF' {t : Bool} {P Q : Prop} (e : t = false) (h : Q) : (t = true → P) ∧ (t = false → Q) := by subst e; exact iteF h
theorem iteT' {t : Bool} {P Q : Prop} (e : t = true) (h : P) : (t = true → P) ∧ (t = false → Q) := by subst e; exact iteT h
theorem orF' {t : Bool} {P Q : Prop} (e : t = false) (h : P) : (t = false → P) ∧ (t = true → Q) := by subst e; exact orF h
/-! places of a tuple -/
section
variable {st : Store} {x0 x1 x2 x3 x4 x5 x6 : Val} {r : List Val}
theorem at_k {xs : List Val} {x : Val} {k : Nat} (h : xs[k]? = some x) : L2.atI xs (k : Int) = some x := by
  have hk := (List.getElem?_eq_some_iff.mp h).1
  have h2 : xs[k] = x := (List.getElem?_eq_some_iff.mp h).2
  simp [L2.atI, L2.ixN, hk, h2]
theorem ix_t0 : ixV st (.tup (x0 :: r)) (.int 0) = some x0 := at_k (k := 0) rfl
theorem ix_t1 : ixV st (.tup (x0 :: x1 :: r)) (.int 1) = some x1 := at_k (k := 1) rfl
theorem ix_t2 : ixV st (.tup (x0 :: x1 :: x2 :: r)) (.int 2) = some x2 := at_k (k := 2) rfl
theorem ix_t3 : ixV st (.tup (x0 :: x1 :: x2 :: x3 :: r)) (.int 3) = some x3 := at_k (k := 3) rfl
theorem ix_t4 : ixV st (.tup (x0 :: x1 :: x2 :: x3 :: x4 :: r)) (.int 4) = some x4 := at_k (k := 4) rfl
theorem ix_t5 : ixV st (.tup (x0 :: x1 :: x2 :: x3 :: x4 :: x5 :: r)) (.int 5) = some x5 := at_k (k := 5) rfl
theorem ix_t6 : ixV st (.tup (x0 :: x1 :: x2 :: x3 :: x4 :: x5 :: x6 :: r)) (.int 6) = some x6 := at_k (k := 6) rfl
theorem ie_t0 {Q : Val → Prop} (h : Q x0) : ∃ z, ixV st (.tup (x0 :: r)) (.int 0) = some z ∧ Q z := ⟨_, ix_t0, h⟩
theorem ie_t1 {Q : Val → Prop} (h : Q x1) : ∃ z, ixV st (.tup (x0 :: x1 :: r)) (.int 1) = some z ∧ Q z := ⟨_, ix_t1, h⟩
theorem ie_t2 {Q : Val → Prop} (h : Q x2) : ∃ z, ixV st (.tup (x0 :: x1 :: x2 :: r)) (.int 2) = some z ∧ Q z := ⟨_, ix_t2, h⟩
theorem ie_t3 {Q : Val → Prop} (h : Q x3) : ∃ z, ixV st (.tup (x0 :: x1 :: x2 :: x3 :: r)) (.int 3) = some z ∧ Q z := ⟨_, ix_t3, h⟩
theorem ie_t4 {Q : Val → Prop} (h : Q x4) : ∃ z, ixV st (.tup (x0 :: x1 :: x2 :: x3 :: x4 :: r)) (.int 4) = some z ∧ Q z := ⟨_, ix_t4, h⟩
theorem ie_t5 {Q : Val → Prop} (h : Q x5) : ∃ z, ixV st (.tup (x0 :: x1 :: x2 :: x3 :: x4 :: x5 :: r)) (.int 5) = some z ∧ Q z := ⟨_, ix_t5, h⟩
theorem ie_t6 {Q : Val → Prop} (h : Q x6) : ∃ z, ixV st (.tup (x0 :: x1 :: x2 :: x3 :: x4 :: x5 :: x6 :: r)) (.int 6) = some z ∧ Q z := ⟨_, ix_t6, h⟩
end
/-! classes, exceptions, while -/
section
variable {Q : Val → Store → Prop} {C : Itp} {η : Env} {st : Store} {D : De} {E : Exn → Store → Prop}
theorem v_fld {c : Nat} {f : Txt} {o : Ex} (h : RetX E (V C o η st) fun x st => ∃ z, fldV st c f x = some z ∧ Q z st) : RetX E (V C (.fld c f o) η st) Q :=
  ret_bind (h.imp fun _ _ ⟨z, e, q⟩ => ret_opt e q)
theorem v_meth {c f : Nat} {m : Txt} {o as : Ex} (h : RetX E (V C o η st) fun x st => insOk st c m x = true ∧ RetX E (A C as η st) fun vs st => RetX E (C.C f (x :: vs) st) Q) : RetX E (V C (.meth c f m o as) η st) Q :=
  ret_bind (h.imp fun x st ⟨k, q⟩ => by rw [if_pos k]; exact ret_bind q)
theorem b_fld {T : Bool → Store → Prop} {c : Nat} {f : Txt} {o : Ex} (h : RetX E (V C (.fld c f o) η st) fun x st => ∃ b, x = .bl b ∧ T b st) : RetX E (B C (.fld c f o) η st) T := b_of h
theorem b_meth {T : Bool → Store → Prop} {c f : Nat} {m : Txt} {o as : Ex} (h : RetX E (V C (.meth c f m o as) η st) fun x st => ∃ b, x = .bl b ∧ T b st) : RetX E (B C (.meth c f m o as) η st) T := b_of h
theorem i_fld {I : List Val × Option Nat → Store → Prop} {c : Nat} {f : Txt} {o : Ex} (h : RetX E (V C (.fld c f o) η st) fun x st => ∃ p, itemsOf st x = some p ∧ I p st) : RetX E (It C (.fld c f o) η st) I := i_of h
theorem i_meth {I : List Val × Option Nat → Store → Prop} {c f : Nat} {m : Txt} {o as : Ex} (h : RetX E (V C (.meth c f m o as) η st) fun x st => ∃ p, itemsOf st x = some p ∧ I p st) : RetX E (It C (.meth c f m o as) η st) I := i_of h
theorem v_glb {i : Nat} {q : Txt × Val} (h : C.gs[i]? = some q) (k : Q q.2 st) : RetX E (V C (.glb i) η st) Q := by
  simp only [V, evA, plain, h]; exact ret_ok k
theorem i_glb {I : List Val × Option Nat → Store → Prop} {i : Nat} {q : Txt × Val} (h : C.gs[i]? = some q) (k : ∃ p, itemsOf st q.2 = some p ∧ I p st) : RetX E (It C (.glb i) η st) I := i_of (v_glb (C := C) (η := η) h k)
theorem v_dget {o k d : Ex} (h : RetX E (V C o η st) fun x st => (asD st x).isSome = true ∧ RetX E (V C k η st) fun y st => RetX E (V C d η st) fun z st => ∃ p kk, asD st x = some p ∧ keyOf y = some kk ∧ Q ((look kk p.1 p.2).getD z) st) : RetX E (V C (.dget o k d) η st) Q :=
  ret_bind (h.imp fun x st ⟨k, q⟩ => by rw [if_pos k]; exact ret_bind (q.imp fun y st q => ret_bind (q.imp fun z st ⟨p, kk, e1, e2, q⟩ => by simp only [e1, e2]; exact ret_ok q)))
theorem v_kin {yes : Bool} {i : Nat} {a : Ex} (h : RetX E (V C a η st) fun x st => ∃ nm ks xs k, C.gs[i]? = some (nm, .dct ks xs) ∧ keyOf x = some k ∧ Q (.bl (if yes then (look k ks xs).isSome else !(look k ks xs).isSome)) st) : RetX E (V C (.kin yes i a) η st) Q :=
  ret_bind (h.imp fun x st ⟨nm, ks, xs, k, e1, e2, q⟩ => by simp only [e1, kdV, e2]; exact ret_ok q)
theorem v_kix {i : Nat} {a : Ex} (h : RetX E (V C a η st) fun x st => ∃ nm ks xs k z, C.gs[i]? = some (nm, .dct ks xs) ∧ keyOf x = some k ∧ look k ks xs = some z ∧ Q z st) : RetX E (V C (.kix i a) η st) Q :=
  ret_bind (h.imp fun x st ⟨nm, ks, xs, k, z, e1, e2, e3, q⟩ => by simp only [e1, kdV, e2, e3]; exact ret_ok q)
theorem b_kin {T : Bool → Store → Prop} {yes : Bool} {i : Nat} {a : Ex} (h : RetX E (V C a η st) fun x st => ∃ nm ks xs k, C.gs[i]? = some (nm, .dct ks xs) ∧ keyOf x = some k ∧ T (if yes then (look k ks xs).isSome else !(look k ks xs).isSome) st) : RetX E (B C (.kin yes i a) η st) T :=
  b_of (v_kin (C := C) (h.imp fun x st ⟨nm, ks, xs, k, e1, e2, q⟩ => ⟨nm, ks, xs, k, e1, e2, _, rfl, q⟩))
theorem i_lnew {I : List Val × Option Nat → Store → Prop} {a : Ex} (h : RetX E (V C (.lnew a) η st) fun x st => ∃ p, itemsOf st x = some p ∧ I p st) : RetX E (It C (.lnew a) η st) I := i_of h
theorem i_kix {I : List Val × Option Nat → Store → Prop} {i : Nat} {a : Ex} (h : RetX E (V C (.kix i a) η st) fun x st => ∃ p, itemsOf st x = some p ∧ I p st) : RetX E (It C (.kix i a) η st) I := i_of h
theorem t_raise {c : Nat} (h : D.xc η ⟨c, [], []⟩ st) : FlP (exec C (.raise c) η st) D := .mk h
theorem t_setf {c : Nat} {f : Txt} {o e : Ex} (h : RetX (D.xc η) (V C e η st) fun v st => RetX (D.xc η) (V C o η st) fun x st => ∃ st', setF c f x v st = some st' ∧ D.nx η st') : FlP (exec C (.setf c f o e) η st) D :=
  fl_of (h.imp fun _ _ q => fl_of (q.imp fun _ _ ⟨st', e, q⟩ => by simp only [e]; exact .mk q))
theorem t_try {b : Sm} {hs : List Hd} (h : FlP (exec C b η st) { nx := D.nx, rt := D.rt, bk := D.bk, ct := D.ct, xc := fun η x st => FlP (hndF x η st hs) D }) : FlP (exec C (.try_ b hs) η st) D := by
  show FlP (match exec C b η st with | .xc e η st => hndF e η st hs | f => f) D
  cases e : exec C b η st with
  | xc x η st => rw [e] at h; exact h.out
  | no => rw [e] at h; exact h.out.elim
  | _ => rw [e] at h; exact .mk h.out
theorem t_brk (h : D.bk η st) : FlP (exec C .brk η st) D := .mk h
theorem t_cont (h : D.ct η st) : FlP (exec C .cont η st) D := .mk h
theorem t_retN (h : D.rt .non st) : FlP (exec C .retN η st) D := .mk h
theorem t_mkI {c fi : Nat} {vs : List Val} (e : valsE η = some vs) (h : RetX (D.xc η) (C.C fi (.loc st.length :: vs) (st ++ [.ins c [] []])) fun v st' => v = .non ∧ D.rt (.loc st.length) st') : FlP (exec C (.mkI c fi) η st) D := by
  simp only [exec, e]
  exact fl_of (h.imp fun v st' ⟨e, q⟩ => by subst e; exact .mk q)
/-- J: what holds ahead of a test; μ falls with each round -/
theorem while_inv {t : Ex} {b : Sm} (J : Env → Store → Prop) (μ : Env → Store → Nat) : ∀ (k : Nat) {η : Env} {st : Store}, J η st → μ η st < k →
    (∀ η st, J η st → RetX (D.xc η) (B C t η st) fun c st' => (c = false → D.nx η st') ∧ (c = true → FlP (exec C b η st') { nx := fun η2 st2 => J η2 st2 ∧ μ η2 st2 < μ η st, rt := D.rt, bk := D.nx, ct := fun η2 st2 => J η2 st2 ∧ μ η2 st2 < μ η st, xc := D.xc })) →
    FlP (whl (evA C t).t (exec C b) k η st) D := by
  intro k
  induction k with
  | zero => intro η st j m _; omega
  | succ k ih =>
    intro η st j m hs
    show FlP (((evA C t).t η st).fl η _) D
    refine fl_of ((hs η st j).imp fun c st' q => ?_)
    cases c with
    | false => exact .mk (q.1 rfl)
    | true =>
      have z := q.2 rfl
      have nxt : ∀ η2 st2, J η2 st2 ∧ μ η2 st2 < μ η st → FlP (whl (evA C t).t (exec C b) k η2 st2) D := fun η2 st2 ⟨j2, m2⟩ => ih j2 (by omega) hs
      show FlP (match exec C b η st' with
        | .nx η2 st2 => whl (evA C t).t (exec C b) k η2 st2
        | .ct η2 st2 => whl (evA C t).t (exec C b) k η2 st2
        | .bk η2 st2 => .nx η2 st2
        | .rt v st2 => .rt v st2
        | .xc e η2 st2 => .xc e η2 st2
        | .no => .no) D
      cases e : exec C b η st' with
      | nx η2 st2 => rw [e] at z; exact nxt _ _ z.out
      | ct η2 st2 => rw [e] at z; exact nxt _ _ z.out
      | bk η2 st2 => rw [e] at z; exact .mk z.out
      | rt v st2 => rw [e] at z; exact .mk z.out
      | xc x η2 st2 => rw [e] at z; exact .mk z.out
      | no => rw [e] at z; exact z.out.elim
theorem t_while {t : Ex} {b : Sm} (J : Env → Store → Prop) (μ : Env → Store → Nat) (j : J η st) (m : μ η st < 100000)
    (hs : ∀ η st, J η st → RetX (D.xc η) (B C t η st) fun c st' => (c = false → D.nx η st') ∧ (c = true → FlP (exec C b η st') { nx := fun η2 st2 => J η2 st2 ∧ μ η2 st2 < μ η st, rt := D.rt, bk := D.nx, ct := fun η2 st2 => J η2 st2 ∧ μ η2 st2 < μ η st, xc := D.xc })) :
    FlP (exec C (.while_ t b) η st) D := while_inv J μ 100000 j m hs
end
end Mi
namespace Mi
def d_is_word : Def := ⟨[105, 115, 95, 119, 111, 114, 100], [[119, 111, 114, 100], [115, 105, 103, 110, 115]], [[119, 111, 114, 100], [115, 105, 103, 110, 115], [115, 105, 103, 110]],
 (.seq (.ite (.or (.not (.isi .str (.var 0))) (.not (.chain .le .le (.lit (.int 1)) (.fn .len (.cons (.var 0) .nil)) (.lit (.int 8)))))
  (.seq (.ret (.lit (.bl false)))
  .skip)
  .skip)
 (.seq (.ret (.fn .all (.cons (.lc [2] (.nm 2) (.var 0) (.lit (.bl true)) (.cmp .isin (.var 2) (.var 1))) .nil)))
 .skip)), false, .fn⟩
def d_good_fields : Def := ⟨[103, 111, 111, 100, 95, 102, 105, 101, 108, 100, 115], [[102, 105, 101, 108, 100, 115]], [[102, 105, 101, 108, 100, 115], [98, 101, 102, 111, 114, 101], [112, 97, 105, 114]],
 (.seq (.ite (.or (.not (.isi .tuple (.var 0))) (.cmp .eq (.fn .len (.cons (.var 0) .nil)) (.lit (.int 0))))
  (.seq (.ret (.lit (.bl false)))
  .skip)
  .skip)
 (.seq (.asg 1 (.lit (.str [])))
 (.seq (.for_ (.nm 2) (.var 0)
  (.seq (.ite (.or (.not (.isi .tuple (.var 2))) (.or (.cmp .ne (.fn .len (.cons (.var 2) .nil)) (.lit (.int 2))) (.not (.call 0 (.cons (.ix (.var 2) (.lit (.int 0))) (.cons (.glb 0) .nil))))))
   (.seq (.ret (.lit (.bl false)))
   .skip)
   .skip)
  (.seq (.ite (.cmp .le (.ix (.var 2) (.lit (.int 0))) (.var 1))
   (.seq (.ret (.lit (.bl false)))
   .skip)
   .skip)
  (.seq (.asg 1 (.ix (.var 2) (.lit (.int 0))))
  .skip))))
 (.seq (.ret (.lit (.bl true)))
 .skip)))), false, .fn⟩
def d_need_kind : Def := ⟨[110, 101, 101, 100, 95, 107, 105, 110, 100], [[107, 105, 110, 100], [108, 101, 116, 116, 101, 114, 115]], [[107, 105, 110, 100], [108, 101, 116, 116, 101, 114, 115]],
 (.seq (.expr (.call 3 (.cons (.var 0) (.cons (.var 1) (.cons (.lit (.int 0)) .nil)))))
 .skip), false, .fn⟩
def d_look_through : Def := ⟨[108, 111, 111, 107, 95, 116, 104, 114, 111, 117, 103, 104], [[107, 105, 110, 100], [108, 101, 116, 116, 101, 114, 115], [100, 101, 101, 112]], [[107, 105, 110, 100], [108, 101, 116, 116, 101, 114, 115], [100, 101, 101, 112], [99, 104, 111, 105, 99, 101], [102, 105, 101, 108, 100], [111, 110, 101]],
 (.seq (.ite (.or (.not (.isi .tuple (.var 0))) (.or (.cmp .eq (.fn .len (.cons (.var 0) .nil)) (.lit (.int 0))) (.cmp .gt (.var 2) (.glb 2))))
  (.seq (.raise 1)
  .skip)
  .skip)
 (.seq (.for_ (.nm 3) (.var 0)
  (.seq (.ite (.or (.not (.isi .tuple (.var 3))) (.or (.cmp .eq (.fn .len (.cons (.var 3) .nil)) (.lit (.int 0))) (.cmp .gt (.fn .len (.cons (.var 3) .nil)) (.lit (.int 2)))))
   (.seq (.raise 1)
   .skip)
   .skip)
  (.seq (.ite (.cmp .eq (.fn .len (.cons (.var 3) .nil)) (.lit (.int 1)))
   (.seq (.ite (.and (.cmp .ne (.ix (.var 3) (.lit (.int 0))) (.lit (.str [110, 117, 109, 98, 101, 114]))) (.cmp .ne (.ix (.var 3) (.lit (.int 0))) (.lit (.str [116, 101, 120, 116]))))
    (.seq (.raise 1)
    .skip)
    .skip)
   .skip)
   (.seq (.ite (.or (.cmp .eq (.ix (.var 3) (.lit (.int 0))) (.lit (.str [114, 111, 119]))) (.cmp .eq (.ix (.var 3) (.lit (.int 0))) (.lit (.str [98, 111, 111, 107]))))
    (.seq (.expr (.call 3 (.cons (.ix (.var 3) (.lit (.int 1))) (.cons (.var 1) (.cons (.bin .add (.var 2) (.lit (.int 1))) .nil)))))
    .skip)
    (.seq (.ite (.cmp .eq (.ix (.var 3) (.lit (.int 0))) (.lit (.str [115, 104, 97, 112, 101])))
     (.seq (.ite (.not (.call 1 (.cons (.ix (.var 3) (.lit (.int 1))) .nil)))
      (.seq (.raise 1)
      .skip)
      .skip)
     (.seq (.for_ (.tp [4, 5]) (.ix (.var 3) (.lit (.int 1)))
      (.seq (.expr (.call 3 (.cons (.var 5) (.cons (.var 1) (.cons (.bin .add (.var 2) (.lit (.int 1))) .nil)))))
      .skip))
     .skip))
     (.seq (.ite (.or (.cmp .ne (.ix (.var 3) (.lit (.int 0))) (.lit (.str [108, 101, 116, 116, 101, 114]))) (.cmp .notin (.ix (.var 3) (.lit (.int 1))) (.var 1)))
      (.seq (.raise 1)
      .skip)
      .skip)
     .skip))
    .skip))
   .skip))
  .skip)))
 .skip)), false, .fn⟩
def d_parts_of : Def := ⟨[112, 97, 114, 116, 115, 95, 111, 102], [[112, 97, 114, 116]], [[112, 97, 114, 116], [119, 111, 114, 100], [111, 110, 101], [102, 105, 101, 108, 100]],
 (.seq (.asg 1 (.ix (.var 0) (.lit (.int 0))))
 (.seq (.ite (.cmp .isin (.var 1) (.tup (.cons (.lit (.str [110, 117, 109])) (.cons (.lit (.str [116, 101, 120, 116])) (.cons (.lit (.str [110, 97, 109, 101])) (.cons (.lit (.str [110, 111, 114, 111, 119])) (.cons (.lit (.str [110, 111, 98, 111, 111, 107])) .nil)))))))
  (.seq (.ret (.lst .nil))
  .skip)
  .skip)
 (.seq (.ite (.cmp .eq (.var 1) (.lit (.str [114, 111, 119])))
  (.seq (.ret (.lc [2] (.nm 2) (.ix (.var 0) (.lit (.int 1))) (.lit (.bl true)) (.tup (.cons (.var 2) (.cons (.tup .nil) .nil)))))
  .skip)
  .skip)
 (.seq (.ite (.cmp .eq (.var 1) (.lit (.str [115, 104, 97, 112, 101])))
  (.seq (.ret (.lc [3, 2] (.tp [3, 2]) (.ix (.var 0) (.lit (.int 1))) (.lit (.bl true)) (.tup (.cons (.var 2) (.cons (.tup .nil) .nil)))))
  .skip)
  .skip)
 (.seq (.ite (.cmp .eq (.var 1) (.lit (.str [99, 97, 108, 108])))
  (.seq (.ret (.lc [2] (.nm 2) (.ix (.var 0) (.lit (.int 3))) (.lit (.bl true)) (.tup (.cons (.var 2) (.cons (.tup .nil) .nil)))))
  .skip)
  .skip)
 (.seq (.ite (.or (.cmp .eq (.var 1) (.lit (.str [103, 101, 116]))) (.cmp .eq (.var 1) (.lit (.str [115, 105, 122, 101]))))
  (.seq (.ret (.lst (.cons (.tup (.cons (.ix (.var 0) (.lit (.int 1))) (.cons (.tup .nil) .nil))) .nil)))
  .skip)
  .skip)
 (.seq (.ite (.or (.cmp .eq (.var 1) (.lit (.str [108, 101, 116]))) (.cmp .eq (.var 1) (.lit (.str [101, 97, 99, 104]))))
  (.seq (.ret (.lst (.cons (.tup (.cons (.ix (.var 0) (.lit (.int 2))) (.cons (.tup .nil) .nil))) (.cons (.tup (.cons (.ix (.var 0) (.lit (.int 3))) (.cons (.tup (.cons (.ix (.var 0) (.lit (.int 1))) .nil)) .nil))) .nil))))
  .skip)
  .skip)
 (.seq (.ite (.cmp .eq (.var 1) (.lit (.str [102, 111, 108, 100])))
  (.seq (.ret (.lst (.cons (.tup (.cons (.ix (.var 0) (.lit (.int 2))) (.cons (.tup .nil) .nil))) (.cons (.tup (.cons (.ix (.var 0) (.lit (.int 5))) (.cons (.tup .nil) .nil))) (.cons (.tup (.cons (.ix (.var 0) (.lit (.int 6))) (.cons (.tup (.cons (.ix (.var 0) (.lit (.int 1))) (.cons (.ix (.var 0) (.lit (.int 3))) .nil))) .nil))) .nil)))))
  .skip)
  .skip)
 (.seq (.ite (.or (.cmp .eq (.var 1) (.lit (.str [105, 115]))) (.cmp .eq (.var 1) (.lit (.str [104, 97, 115]))))
  (.seq (.ret (.lst (.cons (.tup (.cons (.ix (.var 0) (.lit (.int 3))) (.cons (.tup .nil) .nil))) (.cons (.tup (.cons (.ix (.var 0) (.lit (.int 4))) (.cons (.tup .nil) .nil))) .nil))))
  .skip)
  .skip)
 (.seq (.ret (.lc [2] (.nm 2) (.sl (.var 0) (.lit (.int 1)) .nil) (.lit (.bl true)) (.tup (.cons (.var 2) (.cons (.tup .nil) .nil)))))
 .skip)))))))))), false, .fn⟩
def d_must : Def := ⟨[109, 117, 115, 116], [[103, 111, 111, 100]], [[103, 111, 111, 100]],
 (.seq (.ite (.not (.var 0))
  (.seq (.raise 2)
  .skip)
  .skip)
 .skip), false, .fn⟩
def d_Scope___init__ : Def := ⟨[95, 95, 105, 110, 105, 116, 95, 95], [[115, 101, 108, 102], [108, 101, 116, 116, 101, 114, 115], [101, 97, 114, 108, 105, 101, 114]], [[115, 101, 108, 102], [108, 101, 116, 116, 101, 114, 115], [101, 97, 114, 108, 105, 101, 114]],
 (.seq (.setf 0 [108, 101, 116, 116, 101, 114, 115] (.var 0) (.var 1))
 (.seq (.setf 0 [101, 97, 114, 108, 105, 101, 114] (.var 0) (.var 2))
 .skip)), false, .meth 0⟩
def d_Scope_look : Def := ⟨[108, 111, 111, 107], [[115, 101, 108, 102], [112, 97, 114, 116], [110, 97, 109, 101, 115], [100, 101, 101, 112]], [[115, 101, 108, 102], [112, 97, 114, 116], [110, 97, 109, 101, 115], [100, 101, 101, 112], [111, 110, 101], [110, 101, 119]],
 (.seq (.expr (.call 5 (.cons (.and (.isi .tuple (.var 1)) (.and (.cmp .gt (.fn .len (.cons (.var 1) .nil)) (.lit (.int 0))) (.cmp .le (.var 3) (.glb 7)))) .nil)))
 (.seq (.expr (.call 5 (.cons (.and (.isi .str (.ix (.var 1) (.lit (.int 0)))) (.kin true 3 (.ix (.var 1) (.lit (.int 0))))) .nil)))
 (.seq (.expr (.call 5 (.cons (.cmp .eq (.fn .len (.cons (.var 1) .nil)) (.kix 3 (.ix (.var 1) (.lit (.int 0))))) .nil)))
 (.seq (.ite (.cmp .isin (.ix (.var 1) (.lit (.int 0))) (.tup (.cons (.lit (.str [110, 117, 109])) (.cons (.lit (.str [116, 101, 120, 116])) (.cons (.lit (.str [114, 111, 119])) (.cons (.lit (.str [110, 111, 114, 111, 119])) (.cons (.lit (.str [110, 111, 98, 111, 111, 107])) (.cons (.lit (.str [115, 104, 97, 112, 101])) (.cons (.lit (.str [103, 101, 116])) .nil)))))))))
  (.seq (.expr (.meth 0 8 [108, 111, 111, 107, 95, 112, 108, 97, 105, 110] (.var 0) (.cons (.var 1) .nil)))
  .skip)
  (.seq (.ite (.cmp .isin (.ix (.var 1) (.lit (.int 0))) (.tup (.cons (.lit (.str [108, 101, 116])) (.cons (.lit (.str [101, 97, 99, 104])) (.cons (.lit (.str [102, 111, 108, 100])) .nil)))))
   (.seq (.expr (.meth 0 9 [108, 111, 111, 107, 95, 110, 101, 119] (.var 0) (.cons (.var 1) .nil)))
   .skip)
   (.seq (.ite (.cmp .eq (.ix (.var 1) (.lit (.int 0))) (.lit (.str [99, 97, 108, 108])))
    (.seq (.expr (.meth 0 11 [108, 111, 111, 107, 95, 99, 97, 108, 108] (.var 0) (.cons (.var 1) .nil)))
    .skip)
    (.seq (.ite (.cmp .isin (.ix (.var 1) (.lit (.int 0))) (.tup (.cons (.lit (.str [110, 97, 109, 101])) (.cons (.lit (.str [105, 115])) (.cons (.lit (.str [104, 97, 115])) .nil)))))
     (.seq (.expr (.meth 0 10 [108, 111, 111, 107, 95, 110, 97, 109, 101] (.var 0) (.cons (.var 1) (.cons (.var 2) .nil))))
     .skip)
     .skip)
    .skip))
   .skip))
  .skip))
 (.seq (.for_ (.tp [4, 5]) (.call 4 (.cons (.var 1) .nil))
  (.seq (.expr (.meth 0 7 [108, 111, 111, 107] (.var 0) (.cons (.var 4) (.cons (.bin .add (.var 2) (.fn .list (.cons (.var 5) .nil))) (.cons (.bin .add (.var 3) (.lit (.int 1))) .nil)))))
  .skip))
 .skip))))), false, .meth 0⟩
def d_Scope_look_plain : Def := ⟨[108, 111, 111, 107, 95, 112, 108, 97, 105, 110], [[115, 101, 108, 102], [112, 97, 114, 116]], [[115, 101, 108, 102], [112, 97, 114, 116], [116, 111, 108, 100], [115, 105, 103, 110]],
 (.seq (.asg 2 (.ix (.var 1) (.lit (.int 1))))
 (.seq (.ite (.cmp .eq (.ix (.var 1) (.lit (.int 0))) (.lit (.str [110, 117, 109])))
  (.seq (.expr (.call 5 (.cons (.and (.isi .int (.var 2)) (.not (.isi .bool (.var 2)))) .nil)))
  (.seq (.expr (.call 5 (.cons (.chain .lt .lt (.bin .sub (.lit (.int 0)) (.glb 8)) (.var 2) (.glb 8)) .nil)))
  .skip))
  (.seq (.ite (.cmp .eq (.ix (.var 1) (.lit (.int 0))) (.lit (.str [116, 101, 120, 116])))
   (.seq (.expr (.call 5 (.cons (.isi .str (.var 2)) .nil)))
   (.seq (.expr (.call 5 (.cons (.fn .all (.cons (.lc [3] (.nm 3) (.var 2) (.lit (.bl true)) (.cmp .isin (.var 3) (.glb 5))) .nil)) .nil)))
   .skip))
   (.seq (.ite (.cmp .eq (.ix (.var 1) (.lit (.int 0))) (.lit (.str [114, 111, 119])))
    (.seq (.expr (.call 5 (.cons (.and (.isi .tuple (.var 2)) (.cmp .gt (.fn .len (.cons (.var 2) .nil)) (.lit (.int 0)))) .nil)))
    .skip)
    (.seq (.ite (.cmp .eq (.ix (.var 1) (.lit (.int 0))) (.lit (.str [115, 104, 97, 112, 101])))
     (.seq (.expr (.call 5 (.cons (.call 1 (.cons (.var 2) .nil)) .nil)))
     .skip)
     (.seq (.ite (.cmp .eq (.ix (.var 1) (.lit (.int 0))) (.lit (.str [103, 101, 116])))
      (.seq (.expr (.call 5 (.cons (.call 0 (.cons (.ix (.var 1) (.lit (.int 2))) (.cons (.glb 0) .nil))) .nil)))
      .skip)
      (.seq (.expr (.call 2 (.cons (.var 2) (.cons (.fld 0 [108, 101, 116, 116, 101, 114, 115] (.var 0)) .nil))))
      .skip))
     .skip))
    .skip))
   .skip))
  .skip))
 .skip)), false, .meth 0⟩
def d_Scope_look_new : Def := ⟨[108, 111, 111, 107, 95, 110, 101, 119], [[115, 101, 108, 102], [112, 97, 114, 116]], [[115, 101, 108, 102], [112, 97, 114, 116]],
 (.seq (.expr (.call 5 (.cons (.call 0 (.cons (.ix (.var 1) (.lit (.int 1))) (.cons (.glb 0) .nil))) .nil)))
 (.seq (.ite (.cmp .eq (.ix (.var 1) (.lit (.int 0))) (.lit (.str [102, 111, 108, 100])))
  (.seq (.expr (.call 5 (.cons (.call 0 (.cons (.ix (.var 1) (.lit (.int 3))) (.cons (.glb 0) .nil))) .nil)))
  (.seq (.ite (.cmp .eq (.ix (.var 1) (.lit (.int 1))) (.ix (.var 1) (.lit (.int 3))))
   (.seq (.raise 4)
   .skip)
   .skip)
  (.seq (.expr (.call 2 (.cons (.ix (.var 1) (.lit (.int 4))) (.cons (.fld 0 [108, 101, 116, 116, 101, 114, 115] (.var 0)) .nil))))
  .skip)))
  .skip)
 .skip)), false, .meth 0⟩
def d_Scope_look_name : Def := ⟨[108, 111, 111, 107, 95, 110, 97, 109, 101], [[115, 101, 108, 102], [112, 97, 114, 116], [110, 97, 109, 101, 115]], [[115, 101, 108, 102], [112, 97, 114, 116], [110, 97, 109, 101, 115]],
 (.seq (.ite (.cmp .notin (.ix (.var 1) (.lit (.int 1))) (.var 2))
  (.seq (.raise 3)
  .skip)
  .skip)
 (.seq (.ite (.cmp .eq (.ix (.var 1) (.lit (.int 0))) (.lit (.str [105, 115])))
  (.seq (.expr (.call 5 (.cons (.cmp .isin (.ix (.var 1) (.lit (.int 2))) (.glb 4)) .nil)))
  .skip)
  (.seq (.ite (.cmp .eq (.ix (.var 1) (.lit (.int 0))) (.lit (.str [104, 97, 115])))
   (.seq (.expr (.call 5 (.cons (.call 0 (.cons (.ix (.var 1) (.lit (.int 2))) (.cons (.glb 0) .nil))) .nil)))
   .skip)
   .skip)
  .skip))
 .skip)), false, .meth 0⟩
def d_Scope_look_call : Def := ⟨[108, 111, 111, 107, 95, 99, 97, 108, 108], [[115, 101, 108, 102], [112, 97, 114, 116]], [[115, 101, 108, 102], [112, 97, 114, 116], [102, 117, 110, 99, 116, 105, 111, 110], [107, 105, 110, 100]],
 (.seq (.expr (.call 5 (.cons (.and (.isi .str (.ix (.var 1) (.lit (.int 1)))) (.and (.isi .tuple (.ix (.var 1) (.lit (.int 2)))) (.isi .tuple (.ix (.var 1) (.lit (.int 3)))))) .nil)))
 (.seq (.ite (.cmp .notin (.ix (.var 1) (.lit (.int 1))) (.fld 0 [101, 97, 114, 108, 105, 101, 114] (.var 0)))
  (.seq (.raise 3)
  .skip)
  .skip)
 (.seq (.asg 2 (.ix (.fld 0 [101, 97, 114, 108, 105, 101, 114] (.var 0)) (.ix (.var 1) (.lit (.int 1)))))
 (.seq (.expr (.call 5 (.cons (.and (.cmp .eq (.fn .len (.cons (.ix (.var 1) (.lit (.int 2))) .nil)) (.fn .len (.cons (.ix (.var 2) (.lit (.int 1))) .nil))) (.cmp .eq (.fn .len (.cons (.ix (.var 1) (.lit (.int 3))) .nil)) (.fn .len (.cons (.ix (.var 2) (.lit (.int 2))) .nil)))) .nil)))
 (.seq (.for_ (.nm 3) (.ix (.var 1) (.lit (.int 2)))
  (.seq (.expr (.call 2 (.cons (.var 3) (.cons (.fld 0 [108, 101, 116, 116, 101, 114, 115] (.var 0)) .nil))))
  .skip))
 .skip))))), false, .meth 0⟩
def d_Scope : Def := ⟨[83, 99, 111, 112, 101], [[108, 101, 116, 116, 101, 114, 115], [101, 97, 114, 108, 105, 101, 114]], [[108, 101, 116, 116, 101, 114, 115], [101, 97, 114, 108, 105, 101, 114]], .mkI 0 6, false, .mk 0 6⟩
def d_need_pairs : Def := ⟨[110, 101, 101, 100, 95, 112, 97, 105, 114, 115], [[112, 97, 105, 114, 115], [115, 105, 103, 110, 115]], [[112, 97, 105, 114, 115], [115, 105, 103, 110, 115], [119, 111, 114, 100, 115], [112, 97, 105, 114]],
 (.seq (.expr (.call 5 (.cons (.isi .tuple (.var 0)) .nil)))
 (.seq (.asg 2 (.new .nil))
 (.seq (.for_ (.nm 3) (.var 0)
  (.seq (.expr (.call 5 (.cons (.and (.isi .tuple (.var 3)) (.cmp .eq (.fn .len (.cons (.var 3) .nil)) (.lit (.int 2)))) .nil)))
  (.seq (.expr (.call 5 (.cons (.call 0 (.cons (.ix (.var 3) (.lit (.int 0))) (.cons (.var 1) .nil))) .nil)))
  (.seq (.ite (.cmp .isin (.ix (.var 3) (.lit (.int 0))) (.var 2))
   (.seq (.raise 4)
   .skip)
   .skip)
  (.seq (.expr (.mt .append (.var 2) (.cons (.ix (.var 3) (.lit (.int 0))) .nil)))
  .skip)))))
 (.seq (.frz 2)
 (.seq (.ret (.var 2))
 .skip))))), false, .fn⟩
def d_need_function : Def := ⟨[110, 101, 101, 100, 95, 102, 117, 110, 99, 116, 105, 111, 110], [[102, 117, 110, 99, 116, 105, 111, 110], [101, 97, 114, 108, 105, 101, 114]], [[102, 117, 110, 99, 116, 105, 111, 110], [101, 97, 114, 108, 105, 101, 114], [108, 101, 116, 116, 101, 114, 115], [108, 101, 116, 116, 101, 114], [98, 111, 117, 110, 100], [110, 97, 109, 101, 115], [110, 97, 109, 101], [107, 105, 110, 100]],
 (.seq (.expr (.call 5 (.cons (.and (.isi .tuple (.var 0)) (.cmp .eq (.fn .len (.cons (.var 0) .nil)) (.lit (.int 5)))) .nil)))
 (.seq (.expr (.call 5 (.cons (.and (.call 0 (.cons (.ix (.var 0) (.lit (.int 0))) (.cons (.glb 0) .nil))) (.kin false 3 (.ix (.var 0) (.lit (.int 0))))) .nil)))
 (.seq (.ite (.cmp .isin (.ix (.var 0) (.lit (.int 0))) (.var 1))
  (.seq (.raise 4)
  .skip)
  .skip)
 (.seq (.asg 2 (.fn .tuple (.cons (.call 13 (.cons (.ix (.var 0) (.lit (.int 1))) (.cons (.glb 1) .nil))) .nil)))
 (.seq (.for_ (.tp [3, 4]) (.ix (.var 0) (.lit (.int 1)))
  (.seq (.expr (.call 2 (.cons (.var 4) (.cons (.tup .nil) .nil))))
  .skip))
 (.seq (.asg 5 (.call 13 (.cons (.ix (.var 0) (.lit (.int 2))) (.cons (.glb 0) .nil))))
 (.seq (.for_ (.tp [6, 7]) (.ix (.var 0) (.lit (.int 2)))
  (.seq (.expr (.call 2 (.cons (.var 7) (.cons (.var 2) .nil))))
  .skip))
 (.seq (.expr (.call 2 (.cons (.ix (.var 0) (.lit (.int 3))) (.cons (.var 2) .nil))))
 (.seq (.expr (.meth 0 7 [108, 111, 111, 107] (.call 12 (.cons (.var 2) (.cons (.var 1) .nil))) (.cons (.ix (.var 0) (.lit (.int 4))) (.cons (.var 5) (.cons (.lit (.int 1)) .nil)))))
 .skip))))))))), false, .fn⟩
def d_need_program : Def := ⟨[110, 101, 101, 100, 95, 112, 114, 111, 103, 114, 97, 109], [[112, 114, 111, 103, 114, 97, 109]], [[112, 114, 111, 103, 114, 97, 109], [101, 97, 114, 108, 105, 101, 114], [102, 117, 110, 99, 116, 105, 111, 110]],
 (.seq (.expr (.call 5 (.cons (.and (.isi .list (.var 0)) (.cmp .le (.fn .len (.cons (.var 0) .nil)) (.glb 6))) .nil)))
 (.seq (.asg 1 (.dnew .nil))
 (.seq (.for_ (.nm 2) (.var 0)
  (.seq (.expr (.call 14 (.cons (.var 2) (.cons (.var 1) .nil))))
  (.seq (.put (.var 1) (.ix (.var 2) (.lit (.int 0))) (.var 2))
  .skip)))
 (.seq (.frz 1)
 (.seq (.ret (.var 1))
 .skip))))), false, .fn⟩
def d_law_begun : Def := ⟨[95, 108, 97, 119, 95, 98, 101, 103, 105, 110], [[95, 108, 97, 119, 95, 115, 99, 114, 105, 112, 116]], [[95, 108, 97, 119, 95, 115, 99, 114, 105, 112, 116], [95, 108, 97, 119, 95, 115], [95, 108, 97, 119, 95, 99, 101, 108, 108]],
 (.seq (.asg 1 (.dnew (.cons (.lit (.str [99, 101, 108, 108, 115])) (.cons (.var 0) (.cons (.lit (.str [97, 116])) (.cons (.lit (.int 0)) (.cons (.lit (.str [114, 101, 115, 116])) (.cons (.lit (.int 0)) (.cons (.lit (.str [115, 105, 122, 101])) (.cons (.lit (.int 1)) (.cons (.lit (.str [112, 108, 97, 99, 101])) (.cons (.lit (.int 0)) (.cons (.lit (.str [116, 117, 114, 110])) (.cons (.lit (.int 0)) (.cons (.lit (.str [116, 97, 108, 107])) (.cons (.lit (.int 0)) (.cons (.lit (.str [111, 100, 100])) (.cons (.lit (.int 0)) .nil))))))))))))))))))
 (.seq (.put (.var 1) (.lit (.str [102, 117, 110, 99, 116, 105, 111, 110, 115])) (.lst .nil))
 (.seq (.put (.var 1) (.lit (.str [115, 101, 101, 100])) (.bin .add (.lit (.int 7)) (.fn .sum (.cons (.lc [2] (.nm 2) (.var 0) (.lit (.bl true)) (.bin .mul (.lit (.int 31)) (.fn .abs (.cons (.var 2) .nil)))) .nil))))
 (.seq (.put (.var 1) (.lit (.str [115, 105, 122, 101])) (.bin .add (.lit (.int 1)) (.call 17 (.cons (.var 1) (.cons (.lit (.int 8)) .nil)))))
 (.seq (.put (.var 1) (.lit (.str [112, 108, 97, 99, 101])) (.call 17 (.cons (.var 1) (.cons (.ix (.var 1) (.lit (.str [115, 105, 122, 101]))) .nil))))
 (.seq (.put (.var 1) (.lit (.str [116, 117, 114, 110])) (.call 17 (.cons (.var 1) (.cons (.lit (.int 26)) .nil))))
 (.seq (.put (.var 1) (.lit (.str [116, 97, 108, 107])) (.fn .int (.cons (.cmp .eq (.call 17 (.cons (.var 1) (.cons (.lit (.int 9)) .nil))) (.lit (.int 8))) .nil)))
 (.seq (.ret (.var 1))
 .skip)))))))), false, .fn⟩
def d_law_taken : Def := ⟨[95, 108, 97, 119, 95, 116, 97, 107, 101, 110], [[95, 108, 97, 119, 95, 115], [95, 108, 97, 119, 95, 109, 111, 115, 116]], [[95, 108, 97, 119, 95, 115], [95, 108, 97, 119, 95, 109, 111, 115, 116], [95, 108, 97, 119, 95, 102, 111, 117, 110, 100]],
 (.seq (.ite (.cmp .eq (.ix (.var 0) (.lit (.str [114, 101, 115, 116]))) (.lit (.int 0)))
  (.seq (.put (.var 0) (.lit (.str [97, 116])) (.bin .add (.ix (.var 0) (.lit (.str [97, 116]))) (.lit (.int 1))))
  (.seq (.ite (.cmp .gt (.ix (.var 0) (.lit (.str [97, 116]))) (.fn .len (.cons (.ix (.var 0) (.lit (.str [99, 101, 108, 108, 115]))) .nil)))
   (.seq (.put (.var 0) (.lit (.str [115, 101, 101, 100])) (.bin .mod (.bin .add (.bin .mul (.ix (.var 0) (.lit (.str [115, 101, 101, 100]))) (.lit (.int 48271))) (.lit (.int 11))) (.lit (.int 2147483647))))
   (.seq (.asg 2 (.bin .fdiv (.ix (.var 0) (.lit (.str [115, 101, 101, 100]))) (.lit (.int 64))))
   (.seq (.ret (.ite (.cmp .gt (.var 1) (.bin .pow (.lit (.int 10)) (.lit (.int 8)))) (.bin .mod (.bin .pow (.var 2) (.lit (.int 5))) (.var 1)) (.bin .mod (.var 2) (.var 1))))
   .skip)))
   .skip)
  (.seq (.ite (.cmp .lt (.ix (.ix (.var 0) (.lit (.str [99, 101, 108, 108, 115]))) (.bin .sub (.ix (.var 0) (.lit (.str [97, 116]))) (.lit (.int 1)))) (.bin .pow (.lit (.int 10)) (.lit (.int 18))))
   (.seq (.ret (.bin .mod (.ix (.ix (.var 0) (.lit (.str [99, 101, 108, 108, 115]))) (.bin .sub (.ix (.var 0) (.lit (.str [97, 116]))) (.lit (.int 1)))) (.var 1)))
   .skip)
   .skip)
  (.seq (.put (.var 0) (.lit (.str [114, 101, 115, 116])) (.ix (.ix (.var 0) (.lit (.str [99, 101, 108, 108, 115]))) (.bin .sub (.ix (.var 0) (.lit (.str [97, 116]))) (.lit (.int 1)))))
  .skip))))
  .skip)
 (.seq (.asg 2 (.bin .mod (.ix (.var 0) (.lit (.str [114, 101, 115, 116]))) (.var 1)))
 (.seq (.put (.var 0) (.lit (.str [114, 101, 115, 116])) (.bin .fdiv (.ix (.var 0) (.lit (.str [114, 101, 115, 116]))) (.var 1)))
 (.seq (.ret (.var 2))
 .skip)))), false, .fn⟩
def d_law_word : Def := ⟨[95, 108, 97, 119, 95, 97, 95, 119, 111, 114, 100], [[95, 108, 97, 119, 95, 115], [95, 108, 97, 119, 95, 107]], [[95, 108, 97, 119, 95, 115], [95, 108, 97, 119, 95, 107], [95, 108, 97, 119, 95, 119, 111, 114, 100, 115], [95, 108, 97, 119, 95, 115, 105, 103, 110]],
 (.seq (.ite (.and (.cmp .eq (.ix (.var 0) (.lit (.str [116, 97, 108, 107]))) (.lit (.int 1))) (.cmp .lt (.var 1) (.lit (.int 19))))
  (.seq (.asg 2 (.lst (.cons (.lit (.str [115, 105, 122, 101])) (.cons (.lit (.str [97, 116])) (.cons (.lit (.str [114, 111, 119])) (.cons (.lit (.str [105, 115])) (.cons (.lit (.str [104, 97, 115])) (.cons (.lit (.str [103, 101, 116])) (.cons (.lit (.str [112, 117, 116])) (.cons (.lit (.str [108, 111, 111, 107])) (.cons (.lit (.str [108, 101, 116])) (.cons (.lit (.str [101, 97, 99, 104])) (.cons (.lit (.str [102, 111, 108, 100])) .nil)))))))))))))
  (.seq (.ret (.ix (.bin .add (.var 2) (.lst (.cons (.lit (.str [105, 102])) (.cons (.lit (.str [112, 108, 117, 115])) (.cons (.lit (.str [109, 105, 110, 117, 115])) (.cons (.lit (.str [106, 111, 105, 110])) (.cons (.lit (.str [112, 117, 115, 104])) (.cons (.lit (.str [110, 97, 109, 101])) (.cons (.lit (.str [116, 101, 120, 116])) (.cons (.lit (.str [98, 111, 111, 107])) .nil)))))))))) (.var 1)))
  .skip))
  .skip)
 (.seq (.asg 3 (.ix (.lit (.str [97, 98, 99, 100, 101, 102, 103, 104, 105, 106, 107, 108, 109, 110, 111, 112, 113, 114, 115, 116, 117, 118, 119, 120, 121, 122])) (.bin .mod (.bin .add (.var 1) (.ix (.var 0) (.lit (.str [116, 117, 114, 110])))) (.lit (.int 26)))))
 (.seq (.ret (.bin .add (.bin .add (.bin .mul (.lit (.str [113])) (.ix (.var 0) (.lit (.str [112, 108, 97, 99, 101])))) (.var 3)) (.bin .mul (.lit (.str [113])) (.bin .sub (.bin .sub (.ix (.var 0) (.lit (.str [115, 105, 122, 101]))) (.ix (.var 0) (.lit (.str [112, 108, 97, 99, 101])))) (.lit (.int 1))))))
 .skip))), false, .fn⟩
def d_law_text : Def := ⟨[95, 108, 97, 119, 95, 97, 95, 116, 101, 120, 116], [[95, 108, 97, 119, 95, 115]], [[95, 108, 97, 119, 95, 115], [95, 108, 97, 119, 95, 115, 111, 109, 101], [95, 108, 97, 119, 95, 107]],
 (.seq (.asg 1 (.lit (.str [32, 33, 34, 35, 36, 38, 39, 40, 41, 42, 43, 44, 45, 46, 47, 48, 49, 50, 51, 52, 53, 54, 55, 56, 57, 58, 59, 60, 61, 62, 63, 64, 65, 66, 67, 68, 69, 70, 71, 72, 73, 74, 75, 76, 77, 78, 79, 80, 81, 82, 83, 84, 85, 86, 87, 88, 89, 90, 91, 92, 93, 94, 95, 96])))
 (.seq (.asg 1 (.bin .add (.var 1) (.lit (.str [97, 98, 99, 100, 101, 102, 103, 104, 105, 106, 107, 108, 109, 110, 111, 112, 113, 114, 115, 116, 117, 118, 119, 120, 121, 122, 123, 124, 125, 126]))))
 (.seq (.ret (.mt .join (.lit (.str [])) (.cons (.lc [2] (.nm 2) (.rng1 (.call 17 (.cons (.var 0) (.cons (.lit (.int 4)) .nil)))) (.lit (.bl true)) (.ix (.var 1) (.call 17 (.cons (.var 0) (.cons (.lit (.int 94)) .nil))))) .nil)))
 .skip))), false, .fn⟩
def d_law_refusal : Def := ⟨[95, 108, 97, 119, 95, 114, 101, 102, 117, 115, 97, 108], [[95, 108, 97, 119, 95, 112, 114, 111, 103, 114, 97, 109]], [[95, 108, 97, 119, 95, 112, 114, 111, 103, 114, 97, 109], [101]],
 (.seq (.try_ (.seq (.expr (.call 15 (.cons (.var 0) .nil)))
  .skip)
  [⟨5, 0, [0, 1, 2, 3, 4], (some 1), (.seq (.ite (.not .isV) (.seq (.ret (.lit (.str [110, 111, 110, 101]))) .skip) .skip) (.seq (.ite (.isx 3 [3]) (.seq (.ret (.ite (.and (.isx 2 [2, 3, 4]) (.not (.isx 4 [4]))) (.lit (.str [110, 97, 109, 101])) (.lit (.str [110, 111, 110, 101])))) .skip) .skip) (.seq (.ite (.isx 4 [4]) (.seq (.ret (.ite (.isx 2 [2, 3, 4]) (.lit (.str [116, 119, 105, 99, 101])) (.lit (.str [110, 111, 110, 101])))) .skip) .skip) (.seq (.ite (.isx 2 [2, 3, 4]) (.seq (.ret (.lit (.str [112, 114, 111, 103, 114, 97, 109]))) .skip) .skip) (.seq (.ret (.ite (.isx 1 [1]) (.lit (.str [107, 105, 110, 100])) (.lit (.str [110, 111, 110, 101])))) .skip)))))⟩])
 (.seq (.ret (.lit (.str [103, 111, 111, 100])))
 .skip)), false, .fn⟩
def d_law_deeper : Def := ⟨[95, 108, 97, 119, 95, 100, 101, 101, 112, 101, 114], [[95, 108, 97, 119, 95, 115], [95, 108, 97, 119, 95, 112, 97, 114, 116], [95, 108, 97, 119, 95, 101, 97, 114, 108, 105, 101, 114], [95, 108, 97, 119, 95, 110, 97, 109, 101]], [[95, 108, 97, 119, 95, 115], [95, 108, 97, 119, 95, 112, 97, 114, 116], [95, 108, 97, 119, 95, 101, 97, 114, 108, 105, 101, 114], [95, 108, 97, 119, 95, 110, 97, 109, 101], [95, 108, 97, 119, 95, 119, 111, 114, 100, 115], [95, 108, 97, 119, 95, 119, 111, 114, 100], [95, 108, 97, 119, 95, 103, 111, 111, 100], [95, 108, 97, 119, 95, 109, 97, 110, 121], [95, 108, 97, 119, 95, 97, 116], [95, 108, 97, 119, 95, 112, 97, 114, 116, 115], [95, 108, 97, 119, 95, 107], [95, 108, 97, 119, 95, 110, 101, 119], [95, 108, 97, 119, 95, 102, 105, 101, 108, 100, 115]],
 (.seq (.asg 4 (.lst (.cons (.lit (.str [114, 111, 119])) (.cons (.lit (.str [115, 104, 97, 112, 101])) (.cons (.lit (.str [103, 101, 116])) (.cons (.lit (.str [115, 105, 122, 101])) (.cons (.lit (.str [112, 108, 117, 115])) (.cons (.lit (.str [109, 105, 110, 117, 115])) (.cons (.lit (.str [106, 111, 105, 110])) (.cons (.lit (.str [112, 117, 115, 104])) (.cons (.lit (.str [97, 116])) (.cons (.lit (.str [112, 117, 116])) (.cons (.lit (.str [108, 111, 111, 107])) .nil)))))))))))))
 (.seq (.asg 5 (.ix (.bin .add (.var 4) (.lst (.cons (.lit (.str [108, 101, 116])) (.cons (.lit (.str [101, 97, 99, 104])) (.cons (.lit (.str [105, 102])) (.cons (.lit (.str [102, 111, 108, 100])) (.cons (.lit (.str [105, 115])) (.cons (.lit (.str [104, 97, 115])) (.cons (.lit (.str [99, 97, 108, 108])) .nil))))))))) (.call 17 (.cons (.var 0) (.cons (.lit (.int 18)) .nil)))))
 (.seq (.asg 6 (.tup (.cons (.lit (.str [110, 117, 109])) (.cons (.call 17 (.cons (.var 0) (.cons (.lit (.int 9)) .nil))) .nil))))
 (.seq (.asg 7 (.dget (.dsp (.cons (.lit (.str [103, 101, 116])) (.cons (.lit (.int 1)) (.cons (.lit (.str [115, 105, 122, 101])) (.cons (.lit (.int 1)) (.cons (.lit (.str [114, 111, 119])) (.cons (.lit (.int 3)) (.cons (.lit (.str [115, 104, 97, 112, 101])) (.cons (.lit (.int 3)) (.cons (.lit (.str [97, 116])) (.cons (.lit (.int 3)) (.cons (.lit (.str [112, 117, 116])) (.cons (.lit (.int 3)) (.cons (.lit (.str [108, 111, 111, 107])) (.cons (.lit (.int 3)) (.cons (.lit (.str [105, 102])) (.cons (.lit (.int 4)) .nil))))))))))))))))) (.var 5) (.lit (.int 2))))
 (.seq (.ite (.or (.cmp .eq (.var 5) (.lit (.str [102, 111, 108, 100]))) (.cmp .eq (.var 5) (.lit (.str [99, 97, 108, 108]))))
  (.seq (.asg 7 (.lit (.int 3)))
  .skip)
  .skip)
 (.seq (.asg 8 (.call 17 (.cons (.var 0) (.cons (.var 7) .nil))))
 (.seq (.asg 9 (.fn .tuple (.cons (.lc [10] (.nm 10) (.rng1 (.var 7)) (.lit (.bl true)) (.ite (.cmp .eq (.var 10) (.var 8)) (.var 1) (.var 6))) .nil)))
 (.seq (.asg 11 (.call 18 (.cons (.var 0) (.cons (.lit (.int 5)) .nil))))
 (.seq (.ite (.or (.cmp .eq (.var 5) (.lit (.str [114, 111, 119]))) (.cmp .eq (.var 5) (.lit (.str [103, 101, 116]))))
  (.seq (.ret (.ite (.cmp .eq (.var 5) (.lit (.str [114, 111, 119]))) (.tup (.cons (.var 5) (.cons (.var 9) .nil))) (.tup (.cons (.var 5) (.cons (.ix (.var 9) (.lit (.int 0))) (.cons (.var 11) .nil))))))
  .skip)
  .skip)
 (.seq (.ite (.cmp .eq (.var 5) (.lit (.str [115, 104, 97, 112, 101])))
  (.seq (.asg 12 (.fn .sorted (.cons (.lc [10] (.nm 10) (.rng1 (.lit (.int 3))) (.lit (.bl true)) (.call 18 (.cons (.var 0) (.cons (.var 10) .nil)))) .nil)))
  (.seq (.ret (.tup (.cons (.var 5) (.cons (.fn .tuple (.cons (.lc [10] (.nm 10) (.rng1 (.lit (.int 3))) (.lit (.bl true)) (.tup (.cons (.ix (.var 12) (.var 10)) (.cons (.ix (.var 9) (.var 10)) .nil)))) .nil)) .nil))))
  .skip))
  .skip)
 (.seq (.ite (.or (.cmp .eq (.var 5) (.lit (.str [108, 101, 116]))) (.cmp .eq (.var 5) (.lit (.str [101, 97, 99, 104]))))
  (.seq (.ret (.bin .add (.tup (.cons (.var 5) (.cons (.var 11) .nil))) (.var 9)))
  .skip)
  .skip)
 (.seq (.ite (.cmp .eq (.var 5) (.lit (.str [102, 111, 108, 100])))
  (.seq (.ret (.tup (.cons (.var 5) (.cons (.var 11) (.cons (.ix (.var 9) (.lit (.int 0))) (.cons (.call 18 (.cons (.var 0) (.cons (.lit (.int 6)) .nil))) (.cons (.tup (.cons (.tup (.cons (.lit (.str [110, 117, 109, 98, 101, 114])) .nil)) .nil)) (.cons (.ix (.var 9) (.lit (.int 1))) (.cons (.ix (.var 9) (.lit (.int 2))) .nil)))))))))
  .skip)
  .skip)
 (.seq (.ite (.or (.cmp .eq (.var 5) (.lit (.str [105, 115]))) (.cmp .eq (.var 5) (.lit (.str [104, 97, 115]))))
  (.seq (.ret (.bin .add (.tup (.cons (.var 5) (.cons (.var 3) (.cons (.ite (.cmp .eq (.var 5) (.lit (.str [105, 115]))) (.lit (.str [114, 111, 119])) (.var 11)) .nil)))) (.var 9)))
  .skip)
  .skip)
 (.seq (.ret (.ite (.cmp .eq (.var 5) (.lit (.str [99, 97, 108, 108]))) (.tup (.cons (.lit (.str [99, 97, 108, 108])) (.cons (.var 2) (.cons (.tup .nil) (.cons (.var 9) .nil))))) (.bin .add (.tup (.cons (.var 5) .nil)) (.var 9))))
 .skip)))))))))))))), false, .fn⟩
def d_law : Def := ⟨[108, 97, 119], [[95, 108, 97, 119, 95, 115, 99, 114, 105, 112, 116]], [[95, 108, 97, 119, 95, 115, 99, 114, 105, 112, 116], [95, 108, 97, 119, 95, 115], [95, 108, 97, 119, 95, 110, 117, 109, 98, 101, 114], [95, 108, 97, 119, 95, 112, 97, 114, 97, 109, 115], [95, 108, 97, 119, 95, 107], [95, 108, 97, 119, 95, 101, 97, 114, 108, 105, 101, 114], [95, 108, 97, 119, 95, 109, 111, 115, 116], [95, 108, 97, 119, 95, 108, 101, 97, 118, 101, 115], [95, 108, 97, 119, 95, 108, 101, 97, 102], [95, 108, 97, 119, 95, 112, 97, 114, 116], [95, 108, 97, 119, 95, 109, 97, 110, 121], [95, 108, 97, 119, 95, 119, 111, 114, 100, 115], [95, 108, 97, 119, 95, 110, 97, 109, 101, 115], [95, 108, 97, 119, 95, 110, 97, 109, 101], [95, 108, 97, 119, 95, 102, 117, 110, 99, 116, 105, 111, 110], [95, 108, 97, 119, 95, 103, 111, 111, 100], [95, 108, 97, 119, 95, 102, 111, 117, 110, 100]],
 (.seq (.asg 1 (.call 16 (.cons (.var 0) .nil)))
 (.seq (.put (.var 1) (.lit (.str [116, 97, 108, 107])) (.lit (.int 0)))
 (.seq (.asg 2 (.tup (.cons (.tup (.cons (.lit (.str [110, 117, 109, 98, 101, 114])) .nil)) .nil)))
 (.seq (.asg 3 (.fn .tuple (.cons (.lc [4] (.nm 4) (.rng1 (.lit (.int 3))) (.lit (.bl true)) (.tup (.cons (.call 18 (.cons (.var 1) (.cons (.bin .add (.lit (.int 10)) (.var 4)) .nil))) (.cons (.var 2) .nil)))) .nil)))
 (.seq (.asg 5 (.tup (.cons (.call 18 (.cons (.var 1) (.cons (.lit (.int 21)) .nil))) (.cons (.tup .nil) (.cons (.var 3) (.cons (.var 2) (.cons (.tup (.cons (.lit (.str [110, 97, 109, 101])) (.cons (.ix (.ix (.var 3) (.lit (.int 0))) (.lit (.int 0))) .nil))) .nil)))))))
 (.seq (.asg 6 (.bin .pow (.lit (.int 10)) (.lit (.int 30))))
 (.seq (.asg 7 (.lst (.cons (.tup (.cons (.lit (.str [110, 117, 109])) (.cons (.ix (.lst (.cons (.var 6) (.cons (.bin .sub (.var 6) (.lit (.int 1))) (.cons (.bin .sub (.lit (.int 0)) (.var 6)) (.cons (.bin .sub (.lit (.int 1)) (.var 6)) .nil))))) (.call 17 (.cons (.var 1) (.cons (.lit (.int 4)) .nil)))) .nil))) .nil)))
 (.seq (.asg 7 (.bin .add (.var 7) (.lst (.cons (.tup (.cons (.lit (.str [116, 101, 120, 116])) (.cons (.call 19 (.cons (.var 1) .nil)) .nil))) (.cons (.tup (.cons (.lit (.str [110, 97, 109, 101])) (.cons (.ix (.ix (.var 3) (.lit (.int 0))) (.lit (.int 0))) .nil))) (.cons (.tup (.cons (.lit (.str [110, 111, 114, 111, 119])) (.cons (.var 2) .nil))) (.cons (.tup (.cons (.lit (.str [110, 111, 98, 111, 111, 107])) (.cons (.var 2) .nil))) .nil)))))))
 (.seq (.asg 8 (.ix (.var 7) (.ix (.lst (.cons (.lit (.int 0)) (.cons (.bin .add (.lit (.int 1)) (.call 17 (.cons (.var 1) (.cons (.lit (.int 4)) .nil)))) .nil))) (.call 17 (.cons (.var 1) (.cons (.lit (.int 2)) .nil))))))
 (.seq (.asg 9 (.var 8))
 (.seq (.asg 10 (.ix (.lst (.cons (.lit (.int 10)) (.cons (.lit (.int 11)) (.cons (.lit (.int 12)) (.cons (.call 17 (.cons (.var 1) (.cons (.lit (.int 16)) .nil))) .nil))))) (.call 17 (.cons (.var 1) (.cons (.lit (.int 4)) .nil)))))
 (.seq (.for_ (.nm 4) (.rng1 (.var 10))
  (.seq (.asg 9 (.call 21 (.cons (.var 1) (.cons (.var 9) (.cons (.ix (.var 5) (.lit (.int 0))) (.cons (.ix (.ix (.var 3) (.lit (.int 0))) (.lit (.int 0))) .nil))))))
  .skip))
 (.seq (.asg 11 (.lst (.cons (.lit (.str [110, 117, 109])) (.cons (.lit (.str [116, 101, 120, 116])) (.cons (.lit (.str [110, 97, 109, 101])) (.cons (.lit (.str [114, 111, 119])) (.cons (.lit (.str [110, 111, 114, 111, 119])) (.cons (.lit (.str [110, 111, 98, 111, 111, 107])) (.cons (.lit (.str [115, 104, 97, 112, 101])) (.cons (.lit (.str [103, 101, 116])) (.cons (.lit (.str [112, 108, 117, 115])) (.cons (.lit (.str [109, 105, 110, 117, 115])) (.cons (.lit (.str [106, 111, 105, 110])) .nil)))))))))))))
 (.seq (.asg 11 (.bin .add (.var 11) (.lst (.cons (.lit (.str [115, 105, 122, 101])) (.cons (.lit (.str [112, 117, 115, 104])) (.cons (.lit (.str [97, 116])) (.cons (.lit (.str [112, 117, 116])) (.cons (.lit (.str [108, 111, 111, 107])) (.cons (.lit (.str [108, 101, 116])) (.cons (.lit (.str [101, 97, 99, 104])) (.cons (.lit (.str [102, 111, 108, 100])) (.cons (.lit (.str [105, 102])) (.cons (.lit (.str [105, 115])) (.cons (.lit (.str [104, 97, 115])) (.cons (.lit (.str [99, 97, 108, 108])) .nil)))))))))))))))
 (.seq (.asg 12 (.lst (.cons (.call 18 (.cons (.var 1) (.cons (.lit (.int 20)) .nil))) (.cons (.call 18 (.cons (.var 1) (.cons (.lit (.int 20)) .nil))) (.cons (.call 18 (.cons (.var 1) (.cons (.lit (.int 20)) .nil))) (.cons (.ix (.var 11) (.call 17 (.cons (.var 1) (.cons (.lit (.int 23)) .nil)))) .nil))))))
 (.seq (.asg 13 (.ix (.var 12) (.call 17 (.cons (.var 1) (.cons (.lit (.int 4)) .nil)))))
 (.seq (.ite (.cmp .eq (.call 17 (.cons (.var 1) (.cons (.lit (.int 9)) .nil))) (.lit (.int 8)))
  (.seq (.asg 13 (.bin .add (.bin .mul (.lit (.str [113])) (.lit (.int 8))) (.ix (.lit (.str [97, 98, 99, 100, 101, 102, 103, 104])) (.call 17 (.cons (.var 1) (.cons (.lit (.int 8)) .nil))))))
  .skip)
  .skip)
 (.seq (.asg 14 (.tup (.cons (.var 13) (.cons (.tup .nil) (.cons (.var 3) (.cons (.var 2) (.cons (.var 9) .nil)))))))
 (.seq (.asg 15 (.and (.cmp .le (.var 10) (.lit (.int 11))) (.and (.cmp .notin (.var 13) (.var 11)) (.cmp .le (.fn .len (.cons (.var 13) .nil)) (.lit (.int 8))))))
 (.seq (.asg 15 (.and (.var 15) (.or (.cmp .ne (.ix (.var 8) (.lit (.int 0))) (.lit (.str [110, 117, 109]))) (.cmp .lt (.fn .abs (.cons (.ix (.var 8) (.lit (.int 1))) .nil)) (.var 6)))))
 (.seq (.ite (.not (.var 15))
  (.seq (.ret (.cmp .eq (.call 20 (.cons (.lst (.cons (.var 5) (.cons (.var 14) .nil))) .nil)) (.lit (.str [112, 114, 111, 103, 114, 97, 109]))))
  .skip)
  .skip)
 (.seq (.asg 16 (.call 15 (.cons (.lst (.cons (.var 5) (.cons (.var 14) .nil))) .nil)))
 (.seq (.ret (.and (.isi .dict (.var 16)) (.and (.cmp .eq (.fn .list (.cons (.var 16) .nil)) (.lst (.cons (.ix (.var 5) (.lit (.int 0))) (.cons (.var 13) .nil)))) (.cmp .eq (.ix (.var 16) (.var 13)) (.var 14)))))
 .skip))))))))))))))))))))))), false, .fn⟩
def prg : Prg := ⟨[d_is_word, d_good_fields, d_need_kind, d_look_through, d_parts_of, d_must, d_Scope___init__, d_Scope_look, d_Scope_look_plain, d_Scope_look_new, d_Scope_look_name, d_Scope_look_call, d_Scope, d_need_pairs, d_need_function, d_need_program, d_law_begun, d_law_taken, d_law_word, d_law_text, d_law_refusal, d_law_deeper, d_law],
 [([83, 77, 65, 76, 76], (.str [97, 98, 99, 100, 101, 102, 103, 104, 105, 106, 107, 108, 109, 110, 111, 112, 113, 114, 115, 116, 117, 118, 119, 120, 121, 122])), ([71, 82, 69, 65, 84], (.str [65, 66, 67, 68, 69, 70, 71, 72, 73, 74, 75, 76, 77, 78, 79, 80, 81, 82, 83, 84, 85, 86, 87, 88, 89, 90])), ([77, 79, 83, 84, 95, 68, 69, 69, 80], (.int 8)), ([83, 73, 90, 69, 83], (.dct [[110, 117, 109], [116, 101, 120, 116], [110, 97, 109, 101], [114, 111, 119], [110, 111, 114, 111, 119], [110, 111, 98, 111, 111, 107], [115, 104, 97, 112, 101], [103, 101, 116], [115, 105, 122, 101], [112, 108, 117, 115], [109, 105, 110, 117, 115], [106, 111, 105, 110], [112, 117, 115, 104], [97, 116], [112, 117, 116], [108, 111, 111, 107], [108, 101, 116], [101, 97, 99, 104], [102, 111, 108, 100], [105, 102], [105, 115], [104, 97, 115], [99, 97, 108, 108]] [(.int 2), (.int 2), (.int 2), (.int 2), (.int 2), (.int 2), (.int 2), (.int 3), (.int 2), (.int 3), (.int 3), (.int 3), (.int 3), (.int 4), (.int 4), (.int 4), (.int 4), (.int 4), (.int 7), (.int 5), (.int 5), (.int 5), (.int 4)])), ([72, 69, 65, 68, 83], (.tup [(.str [110, 117, 109, 98, 101, 114]), (.str [116, 101, 120, 116]), (.str [114, 111, 119]), (.str [98, 111, 111, 107]), (.str [115, 104, 97, 112, 101])])), ([83, 73, 71, 78, 83], (.str [32, 33, 34, 35, 36, 38, 39, 40, 41, 42, 43, 44, 45, 46, 47, 48, 49, 50, 51, 52, 53, 54, 55, 56, 57, 58, 59, 60, 61, 62, 63, 64, 65, 66, 67, 68, 69, 70, 71, 72, 73, 74, 75, 76, 77, 78, 79, 80, 81, 82, 83, 84, 85, 86, 87, 88, 89, 90, 91, 92, 93, 94, 95, 96, 97, 98, 99, 100, 101, 102, 103, 104, 105, 106, 107, 108, 109, 110, 111, 112, 113, 114, 115, 116, 117, 118, 119, 120, 121, 122, 123, 124, 125, 126])), ([77, 79, 83, 84, 95, 70, 85, 78, 67, 84, 73, 79, 78, 83], (.int 12)), ([77, 79, 83, 84, 95, 80, 65, 82, 84, 83, 95, 68, 69, 69, 80], (.int 12)), ([71, 82, 69, 65, 84, 69, 83, 84], (.int 1000000000000000000000000000000))],
 [([83, 99, 111, 112, 101], [[108, 101, 116, 116, 101, 114, 115], [101, 97, 114, 108, 105, 101, 114]])],
 [[83, 111, 111, 116, 104, 69, 114, 114, 111, 114], [66, 97, 100, 75, 105, 110, 100], [66, 97, 100, 80, 114, 111, 103, 114, 97, 109], [78, 111, 78, 97, 109, 101], [84, 119, 105, 99, 101, 84, 111, 108, 100]], [[0, 1, 2, 3, 4], [1], [2, 3, 4], [3], [4]], [[], [], [], [], []]⟩
end Mi
namespace Mi
local macro_rules | `(tactic| array_mem_dec) => `(tactic| repeat (first | (with_reducible apply t_seq) | (with_reducible apply t_skip) | (with_reducible apply t_asg) | (with_reducible apply t_ret) | (with_reducible apply t_expr) | (with_reducible apply t_put) | (with_reducible apply t_ite) | (with_reducible apply t_for) | (with_reducible apply t_asgT) | (with_reducible apply t_setf) | (with_reducible apply t_raise) | (with_reducible apply t_retN) | (with_reducible apply t_brk) | (with_reducible apply t_cont) | ((with_reducible apply v_var); rfl) | ((with_reducible apply b_var); rfl) | ((with_reducible apply i_var); rfl) | ((with_reducible apply v_glb); first | assumption | rfl) | (with_reducible apply v_fld) | (with_reducible apply v_meth) | (with_reducible apply b_fld) | (with_reducible apply b_meth) | (with_reducible apply i_fld) | (with_reducible apply i_meth) | (with_reducible apply v_lit) | (with_reducible apply v_ix) | (with_reducible apply v_bin) | (with_reducible apply v_cmp) | (with_reducible apply v_call) | (with_reducible apply v_tup) | (with_reducible apply v_lst) | (with_reducible apply v_new) | (with_reducible apply v_fn) | (with_reducible apply v_isi) | (with_reducible apply v_mt) | (with_reducible apply v_and) | (with_reducible apply v_or) | (with_reducible apply v_not) | (with_reducible apply v_ite) | (with_reducible apply v_neg) | (with_reducible apply v_chain) | (with_reducible apply v_isN) | (with_reducible apply v_isB) | (with_reducible apply v_lc) | (with_reducible apply a_cons) | (with_reducible apply a_nil) | (with_reducible apply b_cmp) | (with_reducible apply b_and) | (with_reducible apply b_or) | (with_reducible apply b_not) | (with_reducible apply b_call) | (with_reducible apply b_isi) | (with_reducible apply b_lit) | (with_reducible apply b_isN) | (with_reducible apply b_isB) | (with_reducible apply b_chain) | (with_reducible apply b_mt) | (with_reducible apply b_fn) | (with_reducible apply i_rng) | (with_reducible apply i_ix) | (with_reducible apply i_fn) | (with_reducible apply i_call) | (with_reducible apply i_bin) | (with_reducible apply i_lst) | (with_reducible apply i_sortK) | (with_reducible apply i_tup) | (with_reducible apply i_lc) | (with_reducible apply v_dcpy) | (with_reducible apply v_lnew) | (with_reducible apply v_dget) | (with_reducible apply v_kin) | (with_reducible apply v_kix) | (with_reducible apply b_kin) | (with_reducible apply ie_t0) | (with_reducible apply ie_t1) | (with_reducible apply ie_t2) | (with_reducible apply ie_t3) | (with_reducible apply ie_t4) | (with_reducible apply ie_t5) | (with_reducible apply ie_t6) | refine ⟨Nat.le_of_ble_eq_true rfl, ?_⟩ | refine ⟨_, rfl, ?_⟩))
/-! the draws -/
structure Cst where
  size : Int
  place : Int
  turn : Int
  odd : Int
  talk : Int
  fns : Val
structure Dr where
  cells : List Int
  at_ : Int
  rest : Int
  seed : Int
  c : Cst
def DK : List Txt := [[99, 101, 108, 108, 115], [97, 116], [114, 101, 115, 116], [115, 105, 122, 101], [112, 108, 97, 99, 101], [116, 117, 114, 110], [116, 97, 108, 107], [111, 100, 100], [102, 117, 110, 99, 116, 105, 111, 110, 115], [115, 101, 101, 100]]
def Dr.xs (d : Dr) : List Val := [.lst (d.cells.map .int), .int d.at_, .int d.rest, .int d.c.size, .int d.c.place, .int d.c.turn, .int d.c.talk, .int d.c.odd, d.c.fns, .int d.seed]
def Dr.ob (d : Dr) : Ob := .dct DK d.xs
def Dw (c : Cst) (st : Store) : Prop := ∃ d : Dr, st[0]? = some d.ob ∧ 0 ≤ d.at_ ∧ d.c = c
def Fr (st st' : Store) : Prop := st.length ≤ st'.length ∧ ∀ n, 0 < n → n < st.length → st'[n]? = st[n]?
theorem Fr.refl {st : Store} : Fr st st := ⟨Nat.le_refl _, fun _ _ _ => rfl⟩
theorem Fr.trans {a b c : Store} (h : Fr a b) (k : Fr b c) : Fr a c := ⟨Nat.le_trans h.1 k.1, fun n h0 hn => (k.2 n h0 (Nat.lt_of_lt_of_le hn h.1)).trans (h.2 n h0 hn)⟩
theorem Fr.set {st : Store} {o : Ob} : Fr st (st.set 0 o) := ⟨by simp, fun n h0 hn => by rw [List.getElem?_set_ne (by omega)]⟩
theorem Fr.push {st : Store} {o : Ob} : Fr st (st ++ [o]) := ⟨by simp, fun n h0 hn => by rw [List.getElem?_append_left hn]⟩
theorem ix_dr {st : Store} {d : Dr} {k : Txt} {v : Val} (h : st[0]? = some d.ob) (e : look k DK d.xs = some v) : ixV st (.loc 0) (.str k) = some v := by
  simp only [ixV, h, Dr.ob, keyOf, Option.bind, e]
theorem put_dr {st : Store} {d : Dr} {k : Txt} {v : Val} {xs : List Val} (h : st[0]? = some d.ob) (e : putD k v DK d.xs = (DK, xs)) : putV (.loc 0) (.str k) v st = some (st.set 0 (.dct DK xs)) := by
  simp only [putV, h, Dr.ob, keyOf, Option.bind, e]
  rw [if_pos (by show (10 : Nat) < PySem.sizeLine; decide)]
theorem set_get {st : Store} {o o' : Ob} (h : st[0]? = some o) : (st.set 0 o')[0]? = some o' := List.getElem?_set_self (List.getElem?_eq_some_iff.mp h).1
theorem at_cells {ns : List Int} {a : Int} (h1 : 0 ≤ a) (h2 : a < ns.length) : ∃ k : Int, L2.atI (ns.map Val.int) a = some (.int k) := by
  obtain ⟨n, rfl⟩ := Int.eq_ofNat_of_zero_le h1
  have hn : n < ns.length := by omega
  refine ⟨ns[n], ?_⟩
  simp [L2.atI, L2.ixN, hn]
theorem taken_ok {p : Prg} {n : Nat} {st : Store} {c : Cst} {m : Int} (hp : FAt p 17 d_law_taken) (h : Dw c st) (hm : 0 < m) (hm2 : m < 2 ^ 200) :
    Ret (callN p (n + 1) 17 [.loc 0, .int m] st) fun v st' => (∃ i, v = .int i ∧ 0 ≤ i ∧ i < m) ∧ Dw c st' ∧ Fr st st' := by
  obtain ⟨d, h0, ha, rfl⟩ := h
  -- the end: from the rest
  have tail : ∀ (st1 : Store) (d1 : Dr) (η : Env), st1[0]? = some d1.ob → 0 ≤ d1.at_ → d1.c = d.c → Fr st st1 → η = [some (.loc 0), some (.int m), none] →
      FlP (exec ⟨callN p n, p.gs⟩ (.seq (.asg 2 (.bin .mod (.ix (.var 0) (.lit (.str [114, 101, 115, 116]))) (.var 1))) (.seq (.put (.var 0) (.lit (.str [114, 101, 115, 116])) (.bin .fdiv (.ix (.var 0) (.lit (.str [114, 101, 115, 116]))) (.var 1))) (.seq (.ret (.var 2)) .skip))) η st1)
        { nx := fun _ st' => (∃ i, Val.non = .int i ∧ 0 ≤ i ∧ i < m) ∧ Dw d.c st' ∧ Fr st st', rt := fun v st' => (∃ i, v = .int i ∧ 0 ≤ i ∧ i < m) ∧ Dw d.c st' ∧ Fr st st' } := by
    intro st1 d1 η h1 ha1 hc hf hη
    subst hη
    array_mem_dec
    refine ⟨_, ix_dr h1 rfl, ?_⟩
    array_mem_dec
    refine ⟨_, bin_mod hm, ?_⟩
    array_mem_dec
    refine ⟨_, ix_dr h1 rfl, ?_⟩
    array_mem_dec
    refine ⟨_, bin_fdiv hm hm2, ?_⟩
    array_mem_dec
    refine ⟨_, put_dr h1 rfl, ?_⟩
    array_mem_dec
    exact ⟨⟨_, rfl, Int.emod_nonneg _ (by omega), Int.emod_lt_of_pos _ hm⟩, ⟨{ d1 with rest := d1.rest / m }, set_get h1, ha1, hc⟩, hf.trans Fr.set⟩
  refine call_of hp rfl ?_
  simp only [d_law_taken, List.map_cons, List.map_nil, List.length_cons, List.length_nil, List.cons_append, List.nil_append, Nat.reduceAdd, Nat.reduceSub, Nat.zero_add, Nat.add_zero, Nat.sub_self, Nat.sub_zero, List.replicate]
  array_mem_dec
  refine ⟨_, ix_dr h0 rfl, ?_⟩
  array_mem_dec
  refine ⟨fun e => ?_, fun e => t_skip (tail st d _ h0 ha rfl Fr.refl rfl)⟩
  -- a new number
  array_mem_dec
  refine ⟨_, ix_dr h0 rfl, ?_⟩
  array_mem_dec
  refine ⟨_, put_dr h0 rfl, ?_⟩
  have h1 : (st.set 0 (Dr.ob { d with at_ := d.at_ + 1 }))[0]? = some (Dr.ob { d with at_ := d.at_ + 1 }) := set_get h0
  array_mem_dec
  refine ⟨_, ix_dr h1 rfl, ?_⟩
  array_mem_dec
  refine ⟨_, ix_dr h1 rfl, ?_⟩
  array_mem_dec
  refine ⟨fun g => ?_, fun g => ?_⟩
  · -- off the seed
    array_mem_dec
    refine ⟨_, ix_dr h1 rfl, ?_⟩
    array_mem_dec
    refine ⟨_, bin_mul (by decide), ?_⟩
    array_mem_dec
    refine ⟨_, put_dr h1 rfl, ?_⟩
    have h2 := set_get (o' := Dr.ob { d with at_ := d.at_ + 1, seed := (d.seed * 48271 + 11) % 2147483647 }) h1
    array_mem_dec
    refine ⟨_, ix_dr h2 rfl, ?_⟩
    array_mem_dec
    have hr : Dw d.c ((st.set 0 (Dr.ob { d with at_ := d.at_ + 1 })).set 0 (Dr.ob { d with at_ := d.at_ + 1, seed := (d.seed * 48271 + 11) % 2147483647 })) := ⟨_, h2, by show 0 ≤ d.at_ + 1; omega, rfl⟩
    have s1 : 0 ≤ (d.seed * 48271 + 11) % 2147483647 := Int.emod_nonneg _ (by decide)
    have s2 : (d.seed * 48271 + 11) % 2147483647 < 2147483647 := Int.emod_lt_of_pos _ (by decide)
    refine ⟨fun k => ?_, fun k => ?_⟩
    · array_mem_dec
      refine ⟨_, bin_pow ⟨by decide, by decide, ?_, ?_⟩, ?_⟩
      · show -(2 ^ 63) < (d.seed * 48271 + 11) % 2147483647 / 64
        omega
      · show (d.seed * 48271 + 11) % 2147483647 / 64 < 2 ^ 63
        omega
      array_mem_dec
      refine ⟨_, bin_mod hm, ?_⟩
      exact ⟨⟨_, rfl, Int.emod_nonneg _ (by omega), Int.emod_lt_of_pos _ hm⟩, hr, Fr.set.trans Fr.set⟩
    · array_mem_dec
      refine ⟨_, bin_mod hm, ?_⟩
      exact ⟨⟨_, rfl, Int.emod_nonneg _ (by omega), Int.emod_lt_of_pos _ hm⟩, hr, Fr.set.trans Fr.set⟩
  · -- off the script
    have g2 : d.at_ + 1 ≤ d.cells.length := by
      have := of_decide_eq_false g
      simp at this
      omega
    obtain ⟨k, hk⟩ := at_cells (ns := d.cells) (a := d.at_ + 1 - 1) (by omega) (by omega)
    array_mem_dec
    refine ⟨_, ix_dr h1 rfl, ?_⟩
    array_mem_dec
    refine ⟨_, ix_dr h1 rfl, ?_⟩
    array_mem_dec
    refine ⟨_, hk, ?_⟩
    array_mem_dec
    refine ⟨fun l => ?_, fun l => ?_⟩
    · array_mem_dec
      refine ⟨_, ix_dr h1 rfl, ?_⟩
      array_mem_dec
      refine ⟨_, ix_dr h1 rfl, ?_⟩
      array_mem_dec
      refine ⟨_, hk, ?_⟩
      array_mem_dec
      refine ⟨_, bin_mod hm, ?_⟩
      exact ⟨⟨_, rfl, Int.emod_nonneg _ (by omega), Int.emod_lt_of_pos _ hm⟩, ⟨_, h1, by show 0 ≤ d.at_ + 1; omega, rfl⟩, Fr.set⟩
    · array_mem_dec
      refine ⟨_, ix_dr h1 rfl, ?_⟩
      array_mem_dec
      refine ⟨_, ix_dr h1 rfl, ?_⟩
      array_mem_dec
      refine ⟨_, hk, ?_⟩
      array_mem_dec
      refine ⟨_, put_dr h1 rfl, ?_⟩
      refine t_skip (tail _ { d with at_ := d.at_ + 1, rest := k } _ (set_get h1) (by show 0 ≤ d.at_ + 1; omega) rfl (Fr.set.trans Fr.set) rfl)
end Mi
namespace Mi
local macro_rules | `(tactic| array_mem_dec) => `(tactic| repeat (first | (with_reducible apply t_seq) | (with_reducible apply t_skip) | (with_reducible apply t_asg) | (with_reducible apply t_ret) | (with_reducible apply t_expr) | (with_reducible apply t_put) | (with_reducible apply t_ite) | (with_reducible apply t_for) | (with_reducible apply t_asgT) | (with_reducible apply t_setf) | (with_reducible apply t_raise) | (with_reducible apply t_retN) | (with_reducible apply t_brk) | (with_reducible apply t_cont) | ((with_reducible apply v_var); rfl) | ((with_reducible apply b_var); rfl) | ((with_reducible apply i_var); rfl) | ((with_reducible apply v_glb); first | assumption | rfl) | (with_reducible apply v_fld) | (with_reducible apply v_meth) | (with_reducible apply b_fld) | (with_reducible apply b_meth) | (with_reducible apply i_fld) | (with_reducible apply i_meth) | (with_reducible apply v_lit) | (with_reducible apply v_ix) | (with_reducible apply v_bin) | (with_reducible apply v_cmp) | (with_reducible apply v_call) | (with_reducible apply v_tup) | (with_reducible apply v_lst) | (with_reducible apply v_new) | (with_reducible apply v_fn) | (with_reducible apply v_isi) | (with_reducible apply v_mt) | (with_reducible apply v_and) | (with_reducible apply v_or) | (with_reducible apply v_not) | (with_reducible apply v_ite) | (with_reducible apply v_neg) | (with_reducible apply v_chain) | (with_reducible apply v_isN) | (with_reducible apply v_isB) | (with_reducible apply v_lc) | (with_reducible apply a_cons) | (with_reducible apply a_nil) | (with_reducible apply b_cmp) | (with_reducible apply b_and) | (with_reducible apply b_or) | (with_reducible apply b_not) | (with_reducible apply b_call) | (with_reducible apply b_isi) | (with_reducible apply b_lit) | (with_reducible apply b_isN) | (with_reducible apply b_isB) | (with_reducible apply b_chain) | (with_reducible apply b_mt) | (with_reducible apply b_fn) | (with_reducible apply i_rng) | (with_reducible apply i_ix) | (with_reducible apply i_fn) | (with_reducible apply i_call) | (with_reducible apply i_bin) | (with_reducible apply i_lst) | (with_reducible apply i_sortK) | (with_reducible apply i_tup) | (with_reducible apply i_lc) | (with_reducible apply v_dcpy) | (with_reducible apply v_lnew) | (with_reducible apply v_dget) | (with_reducible apply v_kin) | (with_reducible apply v_kix) | (with_reducible apply b_kin) | (with_reducible apply ie_t0) | (with_reducible apply ie_t1) | (with_reducible apply ie_t2) | (with_reducible apply ie_t3) | (with_reducible apply ie_t4) | (with_reducible apply ie_t5) | (with_reducible apply ie_t6) | refine ⟨Nat.le_of_ble_eq_true rfl, ?_⟩ | refine ⟨_, rfl, ?_⟩))
structure Cok (c : Cst) : Prop where
  s1 : 1 ≤ c.size
  s2 : c.size ≤ 8
  p1 : 0 ≤ c.place
  p2 : c.place < c.size
  t1 : 0 ≤ c.turn
  t2 : c.turn < 26
  k : c.talk = 0 ∨ c.talk = 1
  o : c.odd = 0
  f : c.fns = .lst []
theorem ints_all : ∀ ns : List Int, intsV (ns.map .int) = some ns
  | [] => rfl
  | n :: r => by simp only [List.map_cons, intsV, ints_all r, Option.map]
theorem begun_ok {p : Prg} {n : Nat} {ns : List Int} (hl : ns.length ≤ 63) (hp : FAt p 17 d_law_taken) (hb : FAt p 16 d_law_begun) :
    Ret (callN p (n + 2) 16 [.lst (ns.map .int)] []) fun v st' => v = .loc 0 ∧ ∃ c, Dw c st' ∧ Cok c := by
  refine call_of hb rfl ?_
  simp only [d_law_begun, List.map_cons, List.map_nil, List.length_cons, List.length_nil, List.cons_append, List.nil_append, Nat.reduceAdd, Nat.reduceSub, Nat.zero_add, Nat.add_zero, Nat.sub_self, Nat.sub_zero, List.replicate]
  array_mem_dec
  refine v_dnew2 (ks := DK.take 8) (xs := (Dr.xs ⟨ns, 0, 0, 0, ⟨1, 0, 0, 0, 0, .lst []⟩⟩).take 8) (D := (DK.take 8, (Dr.xs ⟨ns, 0, 0, 0, ⟨1, 0, 0, 0, 0, .lst []⟩⟩).take 8)) ?_
  array_mem_dec
  refine ⟨rfl, Nat.le_of_ble_eq_true rfl, rfl, ?_⟩
  array_mem_dec
  rw [ckN]
  refine lc_pure (fun _ => true) (fun x => match x with | .int i => .int (31 * (if i < 0 then -i else i)) | v => v) _ _ (fun x hx => ?_) ?_ ?_
  · obtain ⟨i, _, rfl⟩ := List.mem_map.mp hx
    refine ⟨_, rfl, b_lit ⟨rfl, rfl⟩, fun _ => ?_⟩
    array_mem_dec
    exact ⟨rfl, rfl⟩
  · simp
    exact Nat.le_trans hl (by decide)
  have fe : ([] : List Val) ++ List.map (fun x => match x with | .int i => .int (31 * (if i < 0 then -i else i)) | v => v) (List.filter (fun _ => true) (ns.map Val.int)) = (ns.map fun i => 31 * (if i < 0 then -i else i)).map .int := by
    rw [List.filter_eq_self.mpr (fun _ _ => rfl), List.map_map, List.map_map]; rfl
  rw [fe]
  array_mem_dec
  refine ⟨_, (by simp only [fnV, asL, Option.bind, ints_all, Option.map]; rfl), ?_⟩
  array_mem_dec
  generalize 7 + (ns.map fun i => 31 * (if i < 0 then -i else i)).sum = sd
  change Ret (callN p (n + 1) 17 [.loc 0, .int 8] [Dr.ob ⟨ns, 0, 0, sd, ⟨1, 0, 0, 0, 0, .lst []⟩⟩]) _
  refine (taken_ok hp ⟨_, rfl, Int.le_refl 0, rfl⟩ (by decide) (by decide)).imp fun v st1 ⟨⟨i1, e1, l1, m1⟩, ⟨d1, h1, a1, c1⟩, _⟩ => ?_
  subst e1
  array_mem_dec
  refine ⟨_, put_dr h1 rfl, ?_⟩
  have g1 := set_get (o' := Dr.ob { d1 with c := { d1.c with size := 1 + i1 } }) h1
  array_mem_dec
  refine ⟨_, ix_dr g1 rfl, ?_⟩
  array_mem_dec
  refine (taken_ok (m := 1 + i1) hp ⟨_, g1, a1, rfl⟩ (by omega) (by omega)).imp fun v st2 ⟨⟨i2, e2, l2, m2⟩, ⟨d2, h2, a2, c2⟩, _⟩ => ?_
  subst e2
  array_mem_dec
  refine ⟨_, put_dr h2 rfl, ?_⟩
  have g2 := set_get (o' := Dr.ob { d2 with c := { d2.c with place := i2 } }) h2
  array_mem_dec
  refine (taken_ok (m := 26) hp ⟨_, g2, a2, rfl⟩ (by decide) (by decide)).imp fun v st3 ⟨⟨i3, e3, l3, m3⟩, ⟨d3, h3, a3, c3⟩, _⟩ => ?_
  subst e3
  array_mem_dec
  refine ⟨_, put_dr h3 rfl, ?_⟩
  have g3 := set_get (o' := Dr.ob { d3 with c := { d3.c with turn := i3 } }) h3
  array_mem_dec
  refine (taken_ok (m := 9) hp ⟨_, g3, a3, rfl⟩ (by decide) (by decide)).imp fun v st4 ⟨⟨i4, e4, l4, m4⟩, ⟨d4, h4, a4, c4⟩, _⟩ => ?_
  subst e4
  array_mem_dec
  refine ⟨_, put_dr h4 rfl, ?_⟩
  have g4 := set_get (o' := Dr.ob { d4 with c := { d4.c with talk := if eqf (.int i4) (.int 8) then 1 else 0 } }) h4
  array_mem_dec
  refine ⟨rfl, _, ⟨_, g4, a4, rfl⟩, ?_⟩
  simp only at c1 c2 c3 c4
  constructor <;> simp only [c4, c3, c2, c1] <;> first | omega | rfl | skip
end Mi
namespace Mi
theorem Fr.at {st s : Store} {o : Ob} (f : Fr st s) : Fr st (s.set st.length o) :=
  ⟨by simpa using f.1, fun q h0 hq => by rw [List.getElem?_set_ne (by omega)]; exact f.2 q h0 hq⟩
theorem Dw.at {c : Cst} {s : Store} {n : Nat} {o : Ob} (h : Dw c s) (hn : 0 < n) : Dw c (s.set n o) := by
  obtain ⟨d, h0, a, e⟩ := h
  exact ⟨d, by rw [List.getElem?_set_ne (by omega)]; exact h0, a, e⟩
theorem Dw.pos {c : Cst} {s : Store} (h : Dw c s) : 0 < s.length := by
  obtain ⟨d, h0, _⟩ := h; exact (List.getElem?_eq_some_iff.mp h0).1
theorem Dw.push {c : Cst} {s : Store} {o : Ob} (h : Dw c s) : Dw c (s ++ [o]) := by
  have hL := h.pos
  obtain ⟨d, h0, a, e⟩ := h
  exact ⟨d, by rw [List.getElem?_append_left hL]; exact h0, a, e⟩
/-- a list in the making, of this length -/
theorem app_ok {c : Cst} {st s : Store} {ks : List Val} {z : Val} {P : Val → Prop} (hL : 0 < st.length) (hk : s[st.length]? = some (.lst ks)) (lt : ks.length < 1000) (w : Dw c s) (f : Fr st s) (ha : ∀ k ∈ ks, P k) (hz : P z) :
    ∃ r, mtV .append (.loc st.length) [z] s = some r ∧ (Dw c r.2 ∧ Fr st r.2 ∧ ∃ ks', r.2[st.length]? = some (.lst ks') ∧ ks'.length = ks.length + 1 ∧ ∀ z ∈ ks', P z) := by
  have lt : ks.length < PySem.sizeLine := Nat.lt_trans lt (by decide)
  refine ⟨(.non, s.set st.length (.lst (ks ++ [z]))), by simp only [mtV, hk, if_pos lt], w.at hL, f.at, ks ++ [z], List.getElem?_set_self (List.getElem?_eq_some_iff.mp hk).1, by simp, fun y hy => ?_⟩
  rcases List.mem_append.mp hy with hy | hy
  · exact ha y hy
  · simp at hy; subst hy; exact hz
theorem app_at {st s : Store} {ks : List Val} (hk : s[st.length]? = some (.lst ks)) : mtOk .append (.loc st.length) s = true := by simp only [mtOk, hk]
abbrev kNum : Txt := [110, 117, 109, 98, 101, 114]
abbrev kText : Txt := [116, 101, 120, 116]
abbrev kRow : Txt := [114, 111, 119]
abbrev kBook : Txt := [98, 111, 111, 107]
abbrev kSome : Txt := [115, 111, 109, 101]
abbrev kWith : Txt := [119, 105, 116, 104]
abbrev kShape : Txt := [115, 104, 97, 112, 101]
abbrev kShape_ : Txt := [115, 104, 97, 112, 101, 32]
abbrev kLetter : Txt := [108, 101, 116, 116, 101, 114]
abbrev kCut : Txt := [99, 117, 116]
/-- a kind's choices -/
inductive Ch where
  | num | txt | ltr (x : Txt) | cut (x : Txt) (hs : List Txt) | box (b : Bool) (ks : List Ch) | shp (fs : List (Txt × List Ch)) | som (b : Bool) | wit (f : Txt)
abbrev bw (b : Bool) : Txt := match b with
  | true => kRow
  | false => kBook
mutual
def Ch.v : Ch → Val
  | .num => .tup [.str kNum]
  | .txt => .tup [.str kText]
  | .ltr x => .tup [.str kLetter, .str x]
  | .cut x hs => .tup [.str kCut, .str x, .tup (hs.map .str)]
  | .box b ks => .tup [.str (bw b), .tup (Ch.vs ks)]
  | .shp fs => .tup [.str kShape, .tup (Ch.fs fs)]
  | .som b => .tup [.str kSome, .str (bw b)]
  | .wit f => .tup [.str kWith, .str f]
def Ch.vs : List Ch → List Val
  | [] => []
  | c :: r => c.v :: Ch.vs r
def Ch.fs : List (Txt × List Ch) → List Val
  | [] => []
  | f :: r => Ch.fd f :: Ch.fs r
def Ch.fd : Txt × List Ch → Val
  | (f, ks) => .tup [.str f, .tup (Ch.vs ks)]
end
mutual
/-- how deep -/
def Ch.dp : Ch → Nat
  | .box _ ks => Ch.dps ks + 1
  | .shp fs => Ch.dpf fs + 1
  | _ => 0
def Ch.dps : List Ch → Nat
  | [] => 0
  | c :: r => max c.dp (Ch.dps r)
def Ch.dpf : List (Txt × List Ch) → Nat
  | [] => 0
  | f :: r => max (Ch.dpd f) (Ch.dpf r)
def Ch.dpd : Txt × List Ch → Nat
  | (_, ks) => Ch.dps ks
end
theorem Ch.vs_map (ks : List Ch) : Ch.vs ks = ks.map Ch.v := by
  induction ks with
  | nil => rfl
  | cons c r ih => rw [Ch.vs, ih]; rfl
theorem Ch.fs_map (fs : List (Txt × List Ch)) : Ch.fs fs = fs.map Ch.fd := by
  induction fs with
  | nil => rfl
  | cons c r ih => rw [Ch.fs, ih]; rfl
theorem Ch.dps_le {n : Nat} : ∀ {ks : List Ch}, Ch.dps ks ≤ n ↔ ∀ k ∈ ks, k.dp ≤ n
  | [] => by simp [Ch.dps]
  | c :: r => by simp [Ch.dps, Nat.max_le, Ch.dps_le (ks := r)]
theorem Ch.dpf_le {n : Nat} : ∀ {fs : List (Txt × List Ch)}, Ch.dpf fs ≤ n ↔ ∀ f ∈ fs, Ch.dps f.2 ≤ n
  | [] => by simp [Ch.dpf]
  | (f, ks) :: r => by
    rw [Ch.dpf, Nat.max_le, Ch.dpf_le (fs := r), Ch.dpd]
    simp only [List.forall_mem_cons]
end Mi
namespace Mi
local macro_rules | `(tactic| array_mem_dec) => `(tactic| repeat (first | (with_reducible apply t_seq) | (with_reducible apply t_skip) | (with_reducible apply t_asg) | (with_reducible apply t_ret) | (with_reducible apply t_expr) | (with_reducible apply t_put) | (with_reducible apply t_ite) | (with_reducible apply t_for) | (with_reducible apply t_asgT) | (with_reducible apply t_setf) | (with_reducible apply t_raise) | (with_reducible apply t_retN) | (with_reducible apply t_brk) | (with_reducible apply t_cont) | ((with_reducible apply v_var); rfl) | ((with_reducible apply b_var); rfl) | ((with_reducible apply i_var); rfl) | ((with_reducible apply v_glb); first | assumption | rfl) | (with_reducible apply v_fld) | (with_reducible apply v_meth) | (with_reducible apply b_fld) | (with_reducible apply b_meth) | (with_reducible apply i_fld) | (with_reducible apply i_meth) | (with_reducible apply v_lit) | (with_reducible apply v_ix) | (with_reducible apply v_bin) | (with_reducible apply v_cmp) | (with_reducible apply v_call) | (with_reducible apply v_tup) | (with_reducible apply v_lst) | (with_reducible apply v_new) | (with_reducible apply v_fn) | (with_reducible apply v_isi) | (with_reducible apply v_mt) | (with_reducible apply v_and) | (with_reducible apply v_or) | (with_reducible apply v_not) | (with_reducible apply v_ite) | (with_reducible apply v_neg) | (with_reducible apply v_chain) | (with_reducible apply v_isN) | (with_reducible apply v_isB) | (with_reducible apply v_lc) | (with_reducible apply a_cons) | (with_reducible apply a_nil) | (with_reducible apply b_cmp) | (with_reducible apply b_and) | (with_reducible apply b_or) | (with_reducible apply b_not) | (with_reducible apply b_call) | (with_reducible apply b_isi) | (with_reducible apply b_lit) | (with_reducible apply b_isN) | (with_reducible apply b_isB) | (with_reducible apply b_chain) | (with_reducible apply b_mt) | (with_reducible apply b_fn) | (with_reducible apply i_rng) | (with_reducible apply i_ix) | (with_reducible apply i_fn) | (with_reducible apply i_call) | (with_reducible apply i_bin) | (with_reducible apply i_lst) | (with_reducible apply i_sortK) | (with_reducible apply i_tup) | (with_reducible apply i_lc) | (with_reducible apply v_dcpy) | (with_reducible apply v_lnew) | (with_reducible apply v_dget) | (with_reducible apply v_kin) | (with_reducible apply v_kix) | (with_reducible apply b_kin) | (with_reducible apply ie_t0) | (with_reducible apply ie_t1) | (with_reducible apply ie_t2) | (with_reducible apply ie_t3) | (with_reducible apply ie_t4) | (with_reducible apply ie_t5) | (with_reducible apply ie_t6) | refine ⟨Nat.le_of_ble_eq_true rfl, ?_⟩ | refine ⟨_, rfl, ?_⟩))
theorem t_cut {D : De} {C : Itp} {a b : Sm} {η : Env} {st : Store} (M : Env → Store → Prop) (h : FlP (exec C a η st) { nx := M, rt := D.rt, bk := D.bk, ct := D.ct, xc := D.xc }) (k : ∀ η st, M η st → FlP (exec C b η st) D) : FlP (exec C (.seq a b) η st) D :=
  t_seq (fl_imp h k (fun _ _ h => h) (fun _ _ h => h) (fun _ _ h => h))
/-! words -/
def talkW : List Txt := [[115, 105, 122, 101], [97, 116], [114, 111, 119], [105, 115], [104, 97, 115], [103, 101, 116], [112, 117, 116], [108, 111, 111, 107], [108, 101, 116], [101, 97, 99, 104], [102, 111, 108, 100], [105, 102], [112, 108, 117, 115], [109, 105, 110, 117, 115], [106, 111, 105, 110], [112, 117, 115, 104], [110, 97, 109, 101], [116, 101, 120, 116], [98, 111, 111, 107]]
def wd (c : Cst) (k : Nat) : Txt :=
  if c.talk = 1 ∧ k < 19 then (talkW[k]?).getD [] else repT [113] c.place.toNat ++ [97 + ((k : Int) + c.turn).toNat % 26] ++ repT [113] (c.size - c.place - 1).toNat
structure Word (t : Txt) : Prop where
  ne : t ≠ []
  len : t.length ≤ 8
  low : ∀ x ∈ t, 97 ≤ x ∧ x ≤ 122
theorem repT_q (n : Nat) : (repT [113] n).length = n ∧ ∀ x ∈ repT [113] n, x = 113 := by
  induction n with
  | zero => simp [repT]
  | succ n ih => simp [repT, ih.1]; exact ih.2
theorem wd_word {c : Cst} (h : Cok c) (k : Nat) : Word (wd c k) := by
  unfold wd
  split
  · rename_i e
    have : ∀ k < 19, Word ((talkW[k]?).getD []) := by
      intro k hk
      have e : ∀ t ∈ talkW, t ≠ [] ∧ t.length ≤ 8 ∧ ∀ x ∈ t, 97 ≤ x ∧ x ≤ 122 := by decide
      have l : k < talkW.length := hk
      rw [List.getElem?_eq_getElem l]
      obtain ⟨a, b, c⟩ := e _ (List.getElem_mem l)
      exact ⟨a, b, c⟩
    exact this k e.2
  · obtain ⟨a1, a2⟩ := repT_q c.place.toNat
    obtain ⟨b1, b2⟩ := repT_q (c.size - c.place - 1).toNat
    have := h.s2; have := h.p1; have := h.p2
    refine ⟨by simp, by simp only [List.length_append, List.length_cons, List.length_nil, a1, b1]; omega, fun x hx => ?_⟩
    simp only [List.mem_append, List.mem_singleton] at hx
    rcases hx with (hx | hx) | hx
    · rw [a2 x hx]; decide
    · subst hx; omega
    · rw [b2 x hx]; decide
theorem abc (n : Nat) (h : n < 26) : L2.atI [97, 98, 99, 100, 101, 102, 103, 104, 105, 106, 107, 108, 109, 110, 111, 112, 113, 114, 115, 116, 117, 118, 119, 120, 121, 122] (n : Int) = some (97 + n) := by
  have : ∀ n : Nat, n < 26 → L2.atI [97, 98, 99, 100, 101, 102, 103, 104, 105, 106, 107, 108, 109, 110, 111, 112, 113, 114, 115, 116, 117, 118, 119, 120, 121, 122] ((n : Nat) : Int) = some (97 + n) := by decide
  exact this n h
theorem mul_q {st : Store} {j : Int} (h : 0 ≤ j) (h2 : j ≤ 8) : binV st .mul (.str [113]) (.int j) = some (.str (repT [113] j.toNat)) := by
  simp only [binV]
  rw [if_pos ⟨h, by omega, by simp; omega⟩]
theorem add_str {st : Store} {x y : Txt} (h : x.length + y.length ≤ 1000000) : binV st .add (.str x) (.str y) = some (.str (x ++ y)) := by
  simp only [binV, addV]; rw [if_pos (Nat.le_trans h (by decide))]
theorem word_ok {p : Prg} {n : Nat} {st : Store} {c : Cst} (hp : FAt p 18 d_law_word) (h : Dw c st) (hc : Cok c) (k : Nat) :
    Ret (callN p (n + 1) 18 [.loc 0, .int k] st) fun v st' => v = .str (wd c k) ∧ st' = st := by
  obtain ⟨d, h0, _, rfl⟩ := h
  refine call_of hp rfl ?_
  simp only [d_law_word, List.map_cons, List.map_nil, List.length_cons, List.length_nil, List.cons_append, List.nil_append, Nat.reduceAdd, Nat.reduceSub, Nat.zero_add, Nat.add_zero, Nat.sub_self, Nat.sub_zero, List.replicate]
  refine t_cut (fun η s => η = [some (.loc 0), some (.int k), none, none] ∧ s = st ∧ ¬ (d.c.talk = 1 ∧ k < 19)) ?_ ?_
  · array_mem_dec
    refine ⟨_, ix_dr h0 rfl, ?_⟩
    array_mem_dec
    refine ⟨fun e => ?_, fun e => ?_⟩
    · array_mem_dec
      refine ⟨fun e2 => ?_, fun e2 => ?_⟩
      · have hk : k < 19 := by have := of_decide_eq_true e2; omega
        have ht : d.c.talk = 1 := by simpa [eqf] using e
        array_mem_dec
        refine ⟨.str ((talkW[k]?).getD []), ?_, ?_, rfl⟩
        · have z : ∀ k : Nat, k < 19 → L2.atI (talkW.map Val.str) ((k : Nat) : Int) = some (.str ((talkW[k]?).getD [])) := by
            intro k hk
            have hl : (talkW.map Val.str).length = 19 := rfl
            have l : k < talkW.length := hk
            have h1 : (k : Int) < 19 := by omega
            simp [L2.atI, L2.ixN, hl, h1, List.getElem?_eq_getElem l]
          exact z k hk
        · rw [wd, if_pos ⟨ht, hk⟩]
      · array_mem_dec
        exact ⟨rfl, rfl, fun z => by have := of_decide_eq_false e2; omega⟩
    · refine ⟨nofun, fun _ => ?_⟩
      array_mem_dec
      exact ⟨rfl, rfl, fun z => by simp [eqf, z.1] at e⟩
  rintro η s ⟨rfl, rfl, hn⟩
  have := hc.s2; have := hc.p1; have := hc.p2; have := hc.t1
  array_mem_dec
  refine ⟨_, ix_dr h0 rfl, ?_⟩
  array_mem_dec
  have e : ((k : Int) + d.c.turn) % 26 = ((((k : Int) + d.c.turn).toNat % 26 : Nat) : Int) := by omega
  refine ⟨.str [97 + ((k : Int) + d.c.turn).toNat % 26], ?_, ?_⟩
  · show (L2.atI _ (((k : Int) + d.c.turn) % 26)).map _ = _
    rw [e, abc _ (Nat.mod_lt _ (by decide))]; rfl
  array_mem_dec
  refine ⟨_, ix_dr h0 rfl, ?_⟩
  refine ⟨_, mul_q hc.p1 (by omega), ?_⟩
  array_mem_dec
  refine ⟨_, add_str (by rw [(repT_q _).1]; simp only [List.length_cons, List.length_nil]; omega), ?_⟩
  array_mem_dec
  refine ⟨_, ix_dr h0 rfl, ?_⟩
  array_mem_dec
  refine ⟨_, ix_dr h0 rfl, ?_⟩
  array_mem_dec
  refine ⟨_, mul_q (by omega) (by omega), ?_⟩
  refine ⟨_, add_str (by simp only [List.length_append, (repT_q _).1, List.length_cons, List.length_nil]; omega), ?_⟩
  refine ⟨?_, rfl⟩
  rw [wd, if_neg hn]
end Mi
namespace Mi
def All2 (P : Val → Val → Prop) : List Val → List Val → Prop
  | [], [] => True
  | x :: xs, y :: ys => P x y ∧ All2 P xs ys
  | _, _ => False
theorem lc_rel {η : Env} {tg : Tg} {T : Env → Store → Res Bool} {E : Env → Store → Res Val} (J : Store → Prop) (P : Val → Val → Prop) {R : List Val → Store → Prop} : ∀ (xs acc : List Val) (st : Store), J st →
    (∀ x ∈ xs, ∃ η1, asgTg tg x η = some η1 ∧ (∀ s, T η1 s = .ok true s) ∧ ∀ s, J s → Ret (E η1 s) fun v s => P x v ∧ J s) → acc.length + xs.length ≤ PySem.sizeLine →
    (∀ vs s, J s → All2 P xs vs → R (acc ++ vs) s) → Ret (lcLoop (fun _ => true) tg η T E xs acc st) R
  | [], acc, st, j, _, _, r => by
    have z := r [] st j trivial
    rw [List.append_nil] at z
    exact ret_ok z
  | x :: xs, acc, st, j, h, hl, r => by
    obtain ⟨η1, e, hT, hE⟩ := h x (by simp)
    simp only [lcLoop, if_true, e, hT]
    refine ret_bindN (r := Res.ok true st) (ret_ok ?_)
    refine ret_bindN ((hE st j).imp fun v s ⟨hv, hs⟩ => ?_)
    rw [if_pos (by simp at hl; omega)]
    refine lc_rel J P xs _ s hs (fun y hy => h y (by simp [hy])) (by simp at hl ⊢; omega) fun vs s j a => ?_
    have := r (v :: vs) s j ⟨hv, a⟩
    simpa using this
theorem map_of {α : Type} {f : α → Val} {P : α → Prop} : ∀ {vs : List Val}, (∀ v ∈ vs, ∃ x, v = f x ∧ P x) → ∃ xs : List α, vs = xs.map f ∧ ∀ x ∈ xs, P x
  | [], _ => ⟨[], rfl, by simp⟩
  | v :: vs, h => by
    obtain ⟨x, rfl, hx⟩ := h v (by simp)
    obtain ⟨xs, rfl, hxs⟩ := map_of (vs := vs) fun v hv => h v (by simp [hv])
    exact ⟨x :: xs, rfl, by simpa using ⟨hx, hxs⟩⟩
theorem fds_of {Q : List Ch → Prop} : ∀ {ts : List Txt} {vs : List Val}, All2 (fun x v => ∃ t ks, x = .str t ∧ v = .tup [.str t, .tup (Ch.vs ks)] ∧ Q ks) (ts.map .str) vs →
    ∃ fs : List (Txt × List Ch), vs = Ch.fs fs ∧ fs.map (·.1) = ts ∧ ∀ f ∈ fs, Q f.2
  | [], [], _ => ⟨[], rfl, rfl, by simp⟩
  | [], _ :: _, h => h.elim
  | _ :: _, [], h => h.elim
  | t :: ts, v :: vs, h => by
    obtain ⟨⟨t', ks, e, rfl, q⟩, h⟩ := h
    cases e
    obtain ⟨fs, rfl, e2, q2⟩ := fds_of h
    exact ⟨(t, ks) :: fs, rfl, by simp [e2], fun f hf => by
      rcases List.mem_cons.mp hf with rfl | hf
      · exact q
      · exact q2 f hf⟩
theorem strs_all : ∀ ts : List Txt, strsV (ts.map .str) = some ts
  | [] => rfl
  | n :: r => by simp only [List.map_cons, strsV, strs_all r, Option.map]
theorem ssort_ok {st : Store} {ts : List Txt} (h : ts.length < 64) : fnV st .ssort [.lst (ts.map .str)] = some (.lst ((sortU ts).map .str)) := by
  simp only [fnV, asL, Option.bind, strs_all, if_pos h]
theorem at_nat {xs : List Val} {n : Int} (h0 : 0 ≤ n) (h : n < xs.length) : ∃ v ∈ xs, L2.atI xs n = some v := by
  obtain ⟨k, rfl⟩ := Int.eq_ofNat_of_zero_le h0
  have hk : k < xs.length := by omega
  exact ⟨xs[k], List.getElem_mem hk, by simp [L2.atI, L2.ixN, hk]⟩
/-- a drawn kind -/
def COk (L N : Txt → Prop) : Nat → Ch → Prop
  | 0, c => (match c with
    | .num => True
    | .txt => True
    | .ltr x => L x
    | _ => False)
  | d + 1, c => (match c with
    | .num => True
    | .txt => True
    | .ltr x => L x
    | .box _ ks => (1 ≤ ks.length ∧ ks.length ≤ 3) ∧ ∀ k ∈ ks, COk L N d k
    | .shp fs => (1 ≤ fs.length ∧ fs.length ≤ 2) ∧ (fs.map (·.1)).Pairwise LtT ∧ (∀ f ∈ fs.map (·.1), N f) ∧ ∀ f ∈ fs, (1 ≤ f.2.length ∧ f.2.length ≤ 3) ∧ ∀ k ∈ f.2, COk L N d k
    | _ => False)
def KOk (L N : Txt → Prop) (d : Nat) (ks : List Ch) : Prop := (1 ≤ ks.length ∧ ks.length ≤ 3) ∧ ∀ k ∈ ks, COk L N d k
abbrev Nw (c : Cst) (f : Txt) : Prop := ∃ k : Nat, k < 3 ∧ f = wd c k
theorem Nw.word {c : Cst} (hc : Cok c) (f : Txt) (h : Nw c f) : Word f := by
  obtain ⟨k, _, rfl⟩ := h
  exact wd_word hc k
abbrev KindOf (c : Cst) (ls : List Txt) (d : Nat) (st : Store) (v : Val) (st' : Store) : Prop := (∃ ks, v = .tup (Ch.vs ks) ∧ KOk (· ∈ ls) (Nw c) d ks) ∧ Dw c st' ∧ Fr st st'
section
variable {p : Prg} {c : Cst} (hc : Cok c) (ls : List Txt) (hp : FAt p 17 d_law_taken) (hw : FAt p 18 d_law_word)   
end
end Mi
namespace Mi
/-! what is frozen stays, if nothing of the store is within -/
mutual
def puV : Nat → Val → Bool
  | 0, _ => false
  | n + 1, v => (match v with
    | .loc _ => false
    | .tup xs => puL n xs
    | _ => true)
def puL : Nat → List Val → Bool
  | 0, _ => false
  | _ + 1, [] => true
  | n + 1, x :: xs => puV n x && puL n xs
end
theorem frz_pure : ∀ n : Nat, (∀ v st, puV n v = true → frzV n v st = some (v, st)) ∧ ∀ xs st, puL n xs = true → frzL n xs st = some (xs, st) := by
  intro n
  induction n with
  | zero => exact ⟨fun _ _ h => by simp [puV] at h, fun _ _ h => by simp [puL] at h⟩
  | succ n ih =>
    refine ⟨fun v st h => ?_, fun xs st h => ?_⟩
    · cases v with
      | loc m => simp [puV] at h
      | tup xs => simp only [puV] at h; simp only [frzV, ih.2 xs st h, Option.map]
      | _ => rfl
    · cases xs with
      | nil => rfl
      | cons x xs =>
        simp only [puL, Bool.and_eq_true] at h
        simp only [frzL, ih.1 x st h.1, ih.2 xs st h.2, Option.bind, Option.map]
theorem pu_mono : ∀ n : Nat, (∀ v, puV n v = true → puV (n + 1) v = true) ∧ ∀ xs, puL n xs = true → puL (n + 1) xs = true := by
  intro n
  induction n with
  | zero => exact ⟨fun _ h => by simp [puV] at h, fun _ h => by simp [puL] at h⟩
  | succ n ih =>
    refine ⟨fun v h => ?_, fun xs h => ?_⟩
    · cases v with
      | loc m => simp [puV] at h
      | tup xs => rw [puV] at h ⊢; exact ih.2 xs h
      | _ => simp [puV]
    · cases xs with
      | nil => simp [puL]
      | cons x xs =>
        rw [puL, Bool.and_eq_true] at h ⊢
        exact ⟨ih.1 x h.1, ih.2 xs h.2⟩
theorem puV_le {v : Val} {n : Nat} (h : puV n v = true) : ∀ m, puV (n + m) v = true
  | 0 => h
  | m + 1 => (pu_mono _).1 v (puV_le h m)
theorem puL_of {n : Nat} : ∀ {xs : List Val}, (∀ x ∈ xs, puV n x = true) → puL (n + xs.length + 1) xs = true
  | [], _ => by simp [puL]
  | x :: xs, h => by
    have e : n + (x :: xs).length + 1 = n + xs.length + 1 + 1 := by simp; omega
    rw [e, puL, Bool.and_eq_true]
    refine ⟨?_, puL_of fun y hy => h y (by simp [hy])⟩
    rw [show n + xs.length + 1 = n + (xs.length + 1) by omega]
    exact puV_le (h x (by simp)) _
theorem puL_le {xs : List Val} {n : Nat} (h : puL n xs = true) : ∀ m, puL (n + m) xs = true
  | 0 => h
  | m + 1 => (pu_mono _).2 xs (puL_le h m)
/-- a drawn choice has nothing of the store within -/
theorem COk.pu {L N : Txt → Prop} : ∀ {d : Nat} {c : Ch}, COk L N d c → puV (20 * d + 5) c.v = true := by
  intro d
  induction d with
  | zero =>
    intro c h
    cases c <;> first | exact h.elim | rfl
  | succ d ih =>
    intro c h
    have kinds : ∀ ks : List Ch, ks.length ≤ 3 → (∀ k ∈ ks, COk L N d k) → puL (20 * d + 9) (Ch.vs ks) = true := fun ks hl hk => by
      rw [Ch.vs_map]
      have := puL_of (n := 20 * d + 5) (xs := ks.map Ch.v) fun x hx => by
        obtain ⟨k, hk', rfl⟩ := List.mem_map.mp hx
        exact ih (hk k hk')
      rw [List.length_map] at this
      obtain ⟨m, hm⟩ := Nat.exists_eq_add_of_le (show 20 * d + 5 + ks.length + 1 ≤ 20 * d + 9 by omega)
      rw [hm]
      exact puL_le this m
    cases c with
    | num => rfl
    | txt => rfl
    | ltr x => rfl
    | box b ks =>
      obtain ⟨hl, hk⟩ := h
      have := kinds ks hl.2 hk
      rw [show 20 * (d + 1) + 5 = (20 * d + 9) + 12 + 1 + 1 + 1 + 1 by omega]
      simp only [Ch.v, puV, puL, Bool.true_and, Bool.and_true]
      exact puL_le this 12
    | shp fs =>
      obtain ⟨hl, _, _, hk⟩ := h
      rw [show 20 * (d + 1) + 5 = (20 * d + 13) + 8 + 1 + 1 + 1 + 1 by omega]
      simp only [Ch.v, puV, puL, Bool.true_and, Bool.and_true]
      have q : puL ((20 * d + 13) + fs.length + 1) (Ch.fs fs) = true := by
        rw [Ch.fs_map]
        have := puL_of (n := 20 * d + 9 + 1 + 1 + 1 + 1) (xs := fs.map Ch.fd) fun x hx => by
          obtain ⟨⟨f, ks⟩, hf, rfl⟩ := List.mem_map.mp hx
          have := kinds ks (hk _ hf).1.2 (hk _ hf).2
          simp only [Ch.fd, puV, puL, Bool.true_and, Bool.and_true]
          exact this
        rw [List.length_map] at this
        exact this
      obtain ⟨m, hm⟩ := Nat.exists_eq_add_of_le (show (20 * d + 13) + fs.length + 1 ≤ (20 * d + 13) + 8 by omega)
      rw [hm]
      exact puL_le q m
    | _ => exact h.elim
end Mi
namespace Mi
abbrev Bd := List (Txt × List Ch)
def bks (b : Bd) : List Txt := b.map (·.1)
def bxs (b : Bd) : List Val := b.map fun q => .tup (Ch.vs q.2)
def bput (x : Txt) (k : List Ch) (b : Bd) : Bd := if x ∈ bks b then b.map (fun q => if q.1 = x then (q.1, k) else q) else b ++ [(x, k)]
theorem setA_map (x : Txt) (k : List Ch) : ∀ b : Bd, setA x (.tup (Ch.vs k)) (bks b) (bxs b) = bxs (b.map fun q => if q.1 = x then (q.1, k) else q)
  | [] => rfl
  | q :: b => by
    have ih := setA_map x k b
    simp only [bks, bxs, List.map_cons, setA] at ih ⊢
    rw [ih]
    by_cases h : q.1 = x
    · simp [h]
    · simp [h]
theorem putD_b (x : Txt) (k : List Ch) (b : Bd) : putD x (.tup (Ch.vs k)) (bks b) (bxs b) = (bks (bput x k b), bxs (bput x k b)) := by
  unfold putD bput
  by_cases h : x ∈ bks b
  · rw [if_pos h, if_pos h, setA_map]
    congr 1
    simp only [bks, List.map_map]
    apply List.map_congr_left
    intro q _
    by_cases e : q.1 = x <;> simp [e]
  · rw [if_neg h, if_neg h]
    simp [bks, bxs]
theorem bput_len (x : Txt) (k : List Ch) (b : Bd) : (bput x k b).length ≤ b.length + 1 := by
  unfold bput; split <;> simp
theorem bput_nodup (x : Txt) (k : List Ch) {b : Bd} (h : (bks b).Nodup) : (bks (bput x k b)).Nodup := by
  unfold bput
  split
  · have e : bks (b.map fun q => if q.1 = x then (q.1, k) else q) = bks b := by
      simp only [bks, List.map_map]
      apply List.map_congr_left
      intro q _
      by_cases e : q.1 = x <;> simp [e]
    rw [e]; exact h
  · rename_i hx
    rw [bks, List.map_append, List.nodup_append]
    refine ⟨h, by simp, fun a ha b hb e => ?_⟩
    simp at hb
    subst hb e
    exact hx ha
theorem bput_all {P : Txt × List Ch → Prop} {x : Txt} {k : List Ch} {b : Bd} (h : ∀ q ∈ b, P q) (hx : P (x, k)) : ∀ q ∈ bput x k b, P q := by
  unfold bput
  split
  · intro q hq
    obtain ⟨r, hr, e⟩ := List.mem_map.mp hq
    by_cases z : r.1 = x
    · rw [if_pos z, z] at e; subst e; exact hx
    · rw [if_neg z] at e; subst e; exact h r hr
  · intro q hq
    rcases List.mem_append.mp hq with hq | hq
    · exact h q hq
    · simp at hq; subst hq; exact hx
def up (t : Txt) : Txt := t.map (· - 32)
theorem up_ok {st : Store} {t : Txt} (h : Word t) : mtV .upper (.str t) [] st = some (.str (up t), st) := by
  simp only [mtV]
  rw [if_pos ⟨List.all_eq_true.mpr fun x hx => decide_eq_true (h.low x hx), Nat.le_trans h.len (by decide)⟩]
  rfl
theorem KOk.pu {L N : Txt → Prop} {d : Nat} {ks : List Ch} (h : KOk L N d ks) : puV (20 * d + 10) (.tup (Ch.vs ks)) = true := by
  simp only [puV, Ch.vs_map]
  have := puL_of (n := 20 * d + 5) (xs := ks.map Ch.v) fun x hx => by
    obtain ⟨k, hk, rfl⟩ := List.mem_map.mp hx
    exact (h.2 k hk).pu
  rw [List.length_map] at this
  obtain ⟨m, hm⟩ := Nat.exists_eq_add_of_le (show 20 * d + 5 + ks.length + 1 ≤ 20 * d + 9 by have := h.1.2; omega)
  rw [hm]
  exact puL_le this m
structure BOk (c : Cst) (n : Nat) (b : Bd) : Prop where
  len : b.length ≤ n
  nd : (bks b).Nodup
  all : ∀ q ∈ b, (∃ k < n, q.1 = up (wd c k)) ∧ KOk (· ∈ ([] : List Txt)) (Nw c) 1 q.2
section
variable {p : Prg} {c : Cst} (hc : Cok c) (hp : FAt p 17 d_law_taken) (hw : FAt p 18 d_law_word)    
end
end Mi
namespace Mi
theorem sort_ok {st : Store} {ts : List Txt} (h : ts.length < 64) : fnV st .sorted [.lst (ts.map .str)] = some (.lst ((sortT ts).map .str)) := by
  simp only [fnV, asL, Option.bind, strs_all, if_pos h]
theorem perm_of_sub : ∀ {ls ks : List Txt}, ls.Nodup → (∀ l ∈ ls, l ∈ ks) → ks.length ≤ ls.length → ls.Perm ks
  | [], ks, _, _, h => by
    have : ks = [] := List.length_eq_zero_iff.mp (by simpa using h)
    rw [this]
  | l :: ls, ks, nd, sub, h => by
    have m : l ∈ ks := sub l (by simp)
    obtain ⟨n1, n2⟩ := List.nodup_cons.mp nd
    have ih := perm_of_sub (ls := ls) (ks := ks.erase l) n2 (fun x hx => (List.mem_erase_of_ne (fun e => by subst e; exact n1 hx)).mpr (sub x (by simp [hx]))) (by
      rw [List.length_erase_of_mem m]; simp at h; omega)
    exact (ih.cons l).trans (List.perm_cons_erase m).symm
theorem sort_iff {ks ls : List Txt} (n1 : ks.Nodup) (n2 : ls.Nodup) : sortT ks = sortT ls ↔ ks.length = ls.length ∧ ∀ l ∈ ls, l ∈ ks := by
  constructor
  · intro e
    have p : ls.Perm ks := (sortT_perm ls).symm.trans (e ▸ sortT_perm ks)
    exact ⟨p.length_eq.symm, fun l hl => p.mem_iff.mp hl⟩
  · rintro ⟨h1, h2⟩
    have p := perm_of_sub n2 h2 (by omega)
    exact sort_uniq (sortT_sorted ks) (sortT_sorted ls) ((sortT_perm ks).trans (p.symm.trans (sortT_perm ls).symm))
theorem look_some {k : Txt} : ∀ {ks : List Txt} {xs : List Val}, ks.length = xs.length → k ∈ ks → ∃ x ∈ xs, look k ks xs = some x
  | [], _, _, h => by cases h
  | a :: ks, [], h, _ => by simp at h
  | a :: ks, x :: xs, h, m => by
    by_cases e : a = k
    · exact ⟨x, by simp, by simp [look, e]⟩
    · have m : k ∈ ks := by
        rcases List.mem_cons.mp m with z | z
        · exact absurd z.symm e
        · exact z
      obtain ⟨y, hy, q⟩ := look_some (ks := ks) (xs := xs) (by simpa using h) m
      exact ⟨y, by simp [hy], by simp [look, e, q]⟩
theorem look_no {k : Txt} : ∀ {ks : List Txt} {xs : List Val}, k ∉ ks → look k ks xs = none
  | [], _, _ => by simp [look]
  | a :: ks, [], _ => by simp [look]
  | a :: ks, x :: xs, h => by
    have e : a ≠ k := fun e => h (by simp [e])
    simp only [look, if_neg e]
    exact look_no fun z => h (by simp [z])
theorem look_nd {k : Txt} {y : Val} : ∀ {ks : List Txt} {ys : List Val} {j : Nat}, ks.Nodup → ks[j]? = some k → ys[j]? = some y → look k ks ys = some y := look_at
theorem look_mem {k : Txt} {x : Val} : ∀ {ks : List Txt} {xs : List Val}, look k ks xs = some x → k ∈ ks ∧ x ∈ xs
  | [], _, h => by simp [look] at h
  | _ :: _, [], h => by simp [look] at h
  | a :: ks, b :: xs, h => by
    simp only [look] at h
    split at h
    · rename_i e; cases h; exact ⟨by simp [e], by simp⟩
    · obtain ⟨h1, h2⟩ := look_mem h
      exact ⟨by simp [h1], by simp [h2]⟩
theorem at_getD {xs : List Val} {k : Nat} (h : k < xs.length) : L2.atI xs (k : Int) = some (xs.getD k .non) := by
  simp [L2.atI, L2.ixN, h]
theorem getD_mem {xs : List Val} {k : Nat} (h : k < xs.length) : xs.getD k .non ∈ xs := by
  simp [List.getD, h]
theorem splitC_one {c : Nat} : ∀ {a : Txt}, c ∉ a → splitC c a = [a]
  | [], _ => rfl
  | x :: a, h => by
    have e : ¬ x = c := fun z => h (by simp [z])
    simp only [splitC, if_neg e, splitC_one (c := c) (a := a) fun z => h (by simp [z])]
theorem splitC_app {c : Nat} {r : Txt} : ∀ {a : Txt}, c ∉ a → splitC c (a ++ c :: r) = a :: splitC c r
  | [], _ => by simp [splitC]
  | x :: a, h => by
    have e : ¬ x = c := fun z => h (by simp [z])
    simp only [List.cons_append, splitC, if_neg e, splitC_app (c := c) (a := a) fun z => h (by simp [z])]
theorem splitC_joinT {c : Nat} : ∀ {ws : List Txt}, ws ≠ [] → (∀ w ∈ ws, c ∉ w) → splitC c (joinT [c] ws) = ws
  | [], h, _ => absurd rfl h
  | [w], _, h => splitC_one (h w (by simp))
  | w :: v :: r, _, h => by
    show splitC c (w ++ [c] ++ joinT [c] (v :: r)) = _
    rw [List.append_assoc, List.singleton_append, splitC_app (h w (by simp)), splitC_joinT (by simp) fun x hx => h x (by simp at hx ⊢; exact .inr hx)]
theorem join_inj {ws vs : List Txt} (h1 : ws ≠ []) (h2 : vs ≠ []) (f1 : ∀ w ∈ ws, 32 ∉ w) (f2 : ∀ w ∈ vs, 32 ∉ w) (e : joinT [32] ws = joinT [32] vs) : ws = vs := by
  rw [← splitC_joinT h1 f1, e, splitC_joinT h2 f2]
theorem Word.free {t : Txt} (h : Word t) : 32 ∉ t := fun z => by
  have := h.low 32 z
  omega
end Mi
namespace Mi
local macro_rules | `(tactic| array_mem_dec) => `(tactic| repeat (first | (with_reducible apply t_seq) | (with_reducible apply t_skip) | (with_reducible apply t_asg) | (with_reducible apply t_ret) | (with_reducible apply t_expr) | (with_reducible apply t_put) | (with_reducible apply t_ite) | (with_reducible apply t_for) | (with_reducible apply t_asgT) | (with_reducible apply t_setf) | (with_reducible apply t_raise) | (with_reducible apply t_retN) | (with_reducible apply t_brk) | (with_reducible apply t_cont) | ((with_reducible apply v_var); rfl) | ((with_reducible apply b_var); rfl) | ((with_reducible apply i_var); rfl) | ((with_reducible apply v_glb); first | assumption | rfl) | (with_reducible apply v_fld) | (with_reducible apply v_meth) | (with_reducible apply b_fld) | (with_reducible apply b_meth) | (with_reducible apply i_fld) | (with_reducible apply i_meth) | (with_reducible apply v_lit) | (with_reducible apply v_ix) | (with_reducible apply v_bin) | (with_reducible apply v_cmp) | (with_reducible apply v_call) | (with_reducible apply v_tup) | (with_reducible apply v_lst) | (with_reducible apply v_new) | (with_reducible apply v_fn) | (with_reducible apply v_isi) | (with_reducible apply v_mt) | (with_reducible apply v_and) | (with_reducible apply v_or) | (with_reducible apply v_not) | (with_reducible apply v_ite) | (with_reducible apply v_neg) | (with_reducible apply v_chain) | (with_reducible apply v_isN) | (with_reducible apply v_isB) | (with_reducible apply v_lc) | (with_reducible apply a_cons) | (with_reducible apply a_nil) | (with_reducible apply b_cmp) | (with_reducible apply b_and) | (with_reducible apply b_or) | (with_reducible apply b_not) | (with_reducible apply b_call) | (with_reducible apply b_isi) | (with_reducible apply b_lit) | (with_reducible apply b_isN) | (with_reducible apply b_isB) | (with_reducible apply b_chain) | (with_reducible apply b_mt) | (with_reducible apply b_fn) | (with_reducible apply i_rng) | (with_reducible apply i_ix) | (with_reducible apply i_fn) | (with_reducible apply i_call) | (with_reducible apply i_bin) | (with_reducible apply i_lst) | (with_reducible apply i_sortK) | (with_reducible apply i_tup) | (with_reducible apply i_lc) | (with_reducible apply v_dcpy) | (with_reducible apply v_lnew) | (with_reducible apply v_dget) | (with_reducible apply v_kin) | (with_reducible apply v_kix) | (with_reducible apply b_kin) | (with_reducible apply ie_t0) | (with_reducible apply ie_t1) | (with_reducible apply ie_t2) | (with_reducible apply ie_t3) | (with_reducible apply ie_t4) | (with_reducible apply ie_t5) | (with_reducible apply ie_t6) | refine ⟨Nat.le_of_ble_eq_true rfl, ?_⟩ | refine ⟨_, rfl, ?_⟩))
/-! kinds that are none: need_kind -/
theorem for_suf {D : De} {tg : Tg} {K : Env → Store → Fl} (J : List Val → Env → Store → Prop) : ∀ {xs : List Val} {η : Env} {st : Store}, J xs η st →
    (∀ x r η st, J (x :: r) η st → ∃ η1, asgTg tg x η = some η1 ∧ FlP (K η1 st) { nx := J r, rt := D.rt, bk := D.nx, ct := J r, xc := D.xc }) →
    (∀ η st, J [] η st → D.nx η st) → FlP (forLoop (fun _ => true) tg K xs η st) D := by
  intro xs
  induction xs with
  | nil => exact fun j _ f => for_nil (f _ _ j)
  | cons x xs ih =>
    intro η st j s f
    obtain ⟨η1, e, h⟩ := s x xs η st j
    have next : ∀ η st, J xs η st → FlP (forLoop (fun _ => true) tg K xs η st) D := fun η st j => ih j s f
    exact for_cons e (fl_imp h next (fun _ _ h => h) (fun _ _ h => h) next)
theorem orT' {t : Bool} {P Q : Prop} (e : t = true) (h : Q) : (t = false → P) ∧ (t = true → Q) := by subst e; exact orT h
theorem andF' {t : Bool} {P Q : Prop} (e : t = false) (h : Q) : (t = true → P) ∧ (t = false → Q) := iteF' e h
def smallT : Txt := [97, 98, 99, 100, 101, 102, 103, 104, 105, 106, 107, 108, 109, 110, 111, 112, 113, 114, 115, 116, 117, 118, 119, 120, 121, 122]
def isWs (s t : Txt) : Bool := decide (1 ≤ t.length) && (decide (t.length ≤ 8) && t.all fun c => decide (c ∈ s))
def isWV (s : Txt) : Val → Option Bool
  | .str t => some (isWs s t)
  | .loc _ => none
  | _ => some false
def goodF : List Val → Txt → Option Bool
  | [], _ => some true
  | .tup [f, _] :: r, b => (match f with
    | .str f => if (isWs smallT f && ltT b f) = true then goodF r f else some false
    | .loc _ => none
    | _ => some false)
  | .tup _ :: _, _ => some false
  | .loc _ :: _, _ => none
  | _ :: _, _ => some false
def goodV : Val → Option Bool
  | .tup fs => if fs = [] then some false else goodF fs []
  | .loc _ => none
  | _ => some false
def lookFs (f : Val → Int → Option Bool) (d : Int) : List Val → Option Bool
  | [] => some true
  | .tup [_, k] :: r => (match f k d with
    | some true => lookFs f d r
    | o => o)
  | _ => none
def lookS (f : Val → Int → Option Bool) (d : Int) (y : Val) : Option Bool := match goodV y with
  | some true => (match y with
    | .tup fs => lookFs f d fs
    | _ => none)
  | o => o
def hdE (x : Val) (w : Txt) : Bool := match x with
  | .str t => t == w
  | _ => false
def inS (ls : List Txt) : Val → Option Bool
  | .str x => some (decide (x ∈ ls))
  | .loc _ => none
  | _ => some false
def lookC (f : Val → Int → Option Bool) (ls : List Txt) (d : Int) : Val → Option Bool
  | .tup [] => some false
  | .tup [x] => if flat x then some (hdE x kNum || hdE x kText) else none
  | .tup [x, y] => if flat x then (if hdE x kRow || hdE x kBook then f y (d + 1) else if hdE x kShape then lookS f (d + 1) y else if hdE x kLetter then inS ls y else some false) else none
  | .tup (_ :: _ :: _ :: _) => some false
  | .loc _ => none
  | _ => some false
def lookCs (f : Val → Int → Option Bool) (ls : List Txt) (d : Int) : List Val → Option Bool
  | [] => some true
  | c :: r => (match lookC f ls d c with
    | some true => lookCs f ls d r
    | o => o)
def lookV : Nat → List Txt → Val → Int → Option Bool
  | 0, _, _, _ => none
  | _ + 1, _, .loc _, _ => none
  | n + 1, ls, .tup cs, d => if cs = [] ∨ 8 < d then some false else lookCs (lookV n ls) ls d cs
  | _ + 1, _, _, _ => some false
abbrev xBK : Exn := ⟨1, [], []⟩
section
variable {p : Prg} (hw : FAt p 0 d_is_word) (hg : FAt p 1 d_good_fields) (hn : FAt p 2 d_need_kind) (hl : FAt p 3 d_look_through)
variable {nS nM : Txt} (gS : GAt p 0 (nS, .str smallT)) (gM : GAt p 2 (nM, .int 8))
theorem bls_map : ∀ (bs : List Bool), blsV (bs.map .bl) = some bs
  | [] => rfl
  | b :: r => by simp only [List.map_cons, blsV, bls_map r, Option.map]
include hw in
theorem is_word_ok (K : Nat) (s : Txt) (v : Val) (b : Bool) (st : Store) (hb : isWV s v = some b) : Ret (callN p (K + 1) 0 [v, .str s] st) fun r s => r = .bl b ∧ s = st := by
  refine call_of hw rfl ?_
  simp only [d_is_word, List.map_cons, List.map_nil, List.length_cons, List.length_nil, List.cons_append, List.nil_append, Nat.reduceAdd, Nat.reduceSub, Nat.zero_add, Nat.add_zero, Nat.sub_self, Nat.sub_zero, List.replicate]
  by_cases hv : ∃ t, v = .str t
  · obtain ⟨t, rfl⟩ := hv
    cases hb
    array_mem_dec
    refine orF' rfl ?_
    array_mem_dec
    refine ⟨fun e1 => ?_, fun e1 => ?_⟩
    · have e1' : 1 ≤ t.length := by have := of_decide_eq_true e1; omega
      array_mem_dec
      refine ⟨fun e2 => ?_, fun e2 => ?_⟩
      · array_mem_dec
        have e3 : ¬ t.length ≤ 8 := by
          intro z
          have : ((t.length : Int) ≤ 8) := by omega
          simp [this] at e2
        exact ⟨by simp [isWs, e3], rfl⟩
      · have e2' : t.length ≤ 8 := by
          have : ((t.length : Int) ≤ 8) := by simpa using e2
          omega
        array_mem_dec
        rw [ckN]
        refine lc_pure (fun _ => true) (fun x => match x with | .str [c] => .bl (decide (c ∈ s)) | v => v) _ _ (fun x hx => ?_) ?_ ?_
        · obtain ⟨c, _, rfl⟩ := List.mem_map.mp hx
          refine ⟨_, rfl, b_lit ⟨rfl, rfl⟩, fun _ => ?_⟩
          array_mem_dec
          exact ⟨rfl, rfl⟩
        · simp [show PySem.sizeLine = 16777216 from rfl]; omega
        have fe : ([] : List Val) ++ List.map (fun x => match x with | .str [c] => .bl (decide (c ∈ s)) | v => v) (List.filter (fun _ => true) (t.map fun c => Val.str [c])) = (t.map fun c => decide (c ∈ s)).map .bl := by
          rw [List.filter_eq_self.mpr (fun _ _ => rfl), List.map_map, List.map_map]; rfl
        rw [fe]
        array_mem_dec
        refine ⟨_, (by simp only [fnV, asL, Option.bind, bls_map, Option.map]; rfl), ?_⟩
        exact ⟨by simp [isWs, e1', e2', List.all_map, Function.comp_def], rfl⟩
    · array_mem_dec
      refine iteT' rfl ?_
      array_mem_dec
      exact ⟨by have := of_decide_eq_false e1; simp [isWs]; omega, rfl⟩
  · have hb' : b = false ∧ isiV .str v = some false := by
      cases v with
      | str t => exact (hv ⟨t, rfl⟩).elim
      | loc n => cases hb
      | _ => cases hb; exact ⟨rfl, rfl⟩
    obtain ⟨rfl, hi⟩ := hb'
    array_mem_dec
    refine ⟨_, hi, ?_⟩
    refine orT ?_
    array_mem_dec
    refine iteT ?_
    array_mem_dec
    exact ⟨rfl, rfl⟩
include hw hg gS in
theorem good_fields_ok (K : Nat) (v : Val) (b : Bool) (st : Store) (hb : goodV v = some b) : Ret (callN p (K + 2) 1 [v] st) fun r s => r = .bl b ∧ s = st := by
  refine call_of hg rfl ?_
  simp only [d_good_fields, List.map_cons, List.map_nil, List.length_cons, List.length_nil, List.cons_append, List.nil_append, Nat.reduceAdd, Nat.reduceSub, Nat.zero_add, Nat.add_zero, Nat.sub_self, Nat.sub_zero, List.replicate]
  by_cases hv : ∃ fs, v = .tup fs
  · obtain ⟨fs, rfl⟩ := hv
    array_mem_dec
    refine orF' rfl ?_
    array_mem_dec
    refine ⟨fun e1 => ?_, fun e1 => ?_⟩
    · array_mem_dec
      have e2 : fs = [] := by
        have := eq_of_beq e1
        cases fs with
        | nil => rfl
        | cons _ _ => simp at this; omega
      subst e2
      cases hb
      exact ⟨rfl, rfl⟩
    · have e2 : fs ≠ [] := by rintro rfl; cases e1
      simp only [goodV, if_neg e2] at hb
      array_mem_dec
      rw [ckN]
      refine for_suf (fun xs η s => (∃ t y, η = [some (.tup fs), some (.str t), y] ∧ goodF xs t = some b) ∧ s = st) ⟨⟨_, _, rfl, hb⟩, rfl⟩ ?_ ?_
      · rintro x r η s ⟨⟨t, y, rfl, hb⟩, rfl⟩
        refine ⟨_, rfl, ?_⟩
        by_cases hx : ∃ xs, x = .tup xs
        · obtain ⟨xs, rfl⟩ := hx
          array_mem_dec
          refine orF' rfl ?_
          array_mem_dec
          by_cases hlen : xs.length = 2
          · obtain ⟨f, k, rfl⟩ : ∃ f k, xs = [f, k] := by
              match xs, hlen with
              | [f, k], _ => exact ⟨f, k, rfl⟩
            refine orF' rfl ?_
            array_mem_dec
            cases hf : isWV smallT f with
            | none => cases f <;> first | (cases hf; done) | (simp [goodF] at hb; done)
            | some b1 =>
              refine (is_word_ok hw K smallT f b1 _ hf).imp fun v s ⟨e, e'⟩ => ?_
              subst e e'
              cases b1 with
              | false =>
                refine ⟨_, rfl, iteT ?_⟩
                array_mem_dec
                have hbf : b = false := by
                  cases f with
                  | str f =>
                    have hf2 : isWs smallT f = false := by simpa [isWV] using hf
                    simp [goodF, hf2] at hb
                    exact hb
                  | loc n => cases hf
                  | _ => simp [goodF] at hb; exact hb
                subst hbf
                exact ⟨rfl, rfl⟩
              | true =>
                refine ⟨_, rfl, iteF ?_⟩
                obtain ⟨f, rfl⟩ : ∃ t, f = .str t := by
                  cases f with
                  | str f => exact ⟨f, rfl⟩
                  | _ => cases hf
                have hf2 : isWs smallT f = true := by simpa [isWV] using hf
                array_mem_dec
                cases hlt : ltT t f with
                | true =>
                  refine iteF' (by simp [hlt]) ?_
                  array_mem_dec
                  exact ⟨⟨_, _, rfl, by simpa [goodF, hf2, hlt] using hb⟩, rfl⟩
                | false =>
                  refine iteT' (by simp [hlt]) ?_
                  array_mem_dec
                  have hbf : b = false := by simp [goodF, hf2, hlt] at hb; exact hb
                  subst hbf
                  exact ⟨rfl, rfl⟩
          · refine orT' ?_ ?_
            · simp [eqf]; omega
            refine iteT ?_
            array_mem_dec
            have hbf : b = false := by
              match xs, hlen with
              | [], _ => simp [goodF] at hb; exact hb
              | [_], _ => simp [goodF] at hb; exact hb
              | _ :: _ :: _ :: _, _ => simp [goodF] at hb; exact hb
            subst hbf
            exact ⟨rfl, rfl⟩
        · have hi : isiV .tuple x = some false ∧ b = false := by
            cases x with
            | tup xs => exact (hx ⟨xs, rfl⟩).elim
            | loc n => simp [goodF] at hb
            | _ => simp [goodF] at hb; exact ⟨rfl, hb⟩
          obtain ⟨hi, rfl⟩ := hi
          array_mem_dec
          refine ⟨_, hi, ?_⟩
          refine orT ?_
          refine iteT ?_
          array_mem_dec
          exact ⟨rfl, rfl⟩
      · rintro η s ⟨⟨t, y, rfl, hb⟩, rfl⟩
        array_mem_dec
        have hbf : b = true := by simp [goodF] at hb; exact hb
        subst hbf
        exact ⟨rfl, rfl⟩
  · have hi : isiV .tuple v = some false ∧ b = false := by
      cases v with
      | tup xs => exact (hv ⟨xs, rfl⟩).elim
      | loc n => simp [goodV] at hb
      | _ => simp [goodV] at hb; exact ⟨rfl, hb⟩
    obtain ⟨hi, rfl⟩ := hi
    array_mem_dec
    refine ⟨_, hi, ?_⟩
    refine orT ?_
    refine iteT ?_
    array_mem_dec
    exact ⟨rfl, rfl⟩
theorem eq_flat {st : Store} {w : Val} {t : Txt} (h : flat w = true) : cmpV st .eq w (.str t) = some (hdE w t) := by
  cases w <;> first | (cases h; done) | rfl
theorem ne_flat {st : Store} {w : Val} {t : Txt} (h : flat w = true) : cmpV st .ne w (.str t) = some (!hdE w t) := by
  cases w <;> first | (cases h; done) | rfl
theorem inS_ok {st : Store} {v : Val} {b : Bool} : ∀ {ls : List Txt}, inS ls v = some b → inV' st v (ls.map .str) = some b := by
  intro ls
  cases v with
  | str t =>
    intro h
    cases h
    induction ls with
    | nil => simp [inV']
    | cons l r ih =>
      have e : eqv st 60 (.str l) (.str t) = some (l == t) := rfl
      simp only [List.map_cons, inV', e, ih, Option.bind_some, Option.map_some]
      congr 1
      by_cases q : l = t
      · subst q; simp
      · have q2 : ¬ t = l := fun z => q z.symm
        simp [q, q2]
  | loc n => intro h; cases h
  | _ =>
    intro h
    cases h
    induction ls with
    | nil => rfl
    | cons l r ih => simp only [List.map_cons, inV', ih]; rfl
include hw hg hl gS gM in
theorem look_ok (ls : List Txt) : ∀ (n K : Nat) (v : Val) (d : Int) (b : Bool) (st : Store), lookV n ls v d = some b →
    RetX (fun x s => b = false ∧ x = xBK ∧ s = st) (callN p (K + n + 2) 3 [v, .tup (ls.map .str), .int d] st) (fun r s => b = true ∧ r = .non ∧ s = st) := by
  intro n
  induction n with
  | zero => intro K v d b st hb; cases hb
  | succ n ih =>
  intro K v d b st hb
  refine call_of hl rfl ?_
  simp only [d_look_through, List.map_cons, List.map_nil, List.length_cons, List.length_nil, List.cons_append, List.nil_append, Nat.reduceAdd, Nat.reduceSub, Nat.zero_add, Nat.add_zero, Nat.sub_self, Nat.sub_zero, List.replicate]
  by_cases hv : ∃ cs, v = .tup cs
  · obtain ⟨cs, rfl⟩ := hv
    array_mem_dec
    refine orF' rfl ?_
    array_mem_dec
    refine ⟨fun e1 => ?_, fun e1 => ?_⟩
    · have e2 : cs ≠ [] := by rintro rfl; cases e1
      array_mem_dec
      refine ⟨fun e3 => ?_, fun e3 => ?_⟩
      · array_mem_dec
        have e4 := of_decide_eq_true e3
        refine ⟨?_, rfl, rfl⟩
        simpa [lookV, e4] using hb.symm
      · have e4 := of_decide_eq_false e3
        simp only [lookV, e2, e4, or_self, if_false] at hb
        array_mem_dec
        rw [ckN]
        refine for_suf (fun xs η s => (∃ c f o, η = [some (.tup cs), some (.tup (ls.map .str)), some (.int d), c, f, o]) ∧ lookCs (lookV n ls) ls d xs = some b ∧ s = st) ⟨⟨_, _, _, rfl⟩, hb, rfl⟩ ?_ ?_
        · rintro x r η s ⟨⟨c, f, o, rfl⟩, hb, rfl⟩
          obtain ⟨b1, hC, h1, h2⟩ : ∃ b1, lookC (lookV n ls) ls d x = some b1 ∧ (b1 = false → b = false) ∧ (b1 = true → lookCs (lookV n ls) ls d r = some b) := by
            simp only [lookCs] at hb
            cases q : lookC (lookV n ls) ls d x with
            | none => simp [q] at hb
            | some b1 =>
              cases b1 with
              | true => exact ⟨true, rfl, nofun, fun _ => by simpa [q] using hb⟩
              | false => exact ⟨false, rfl, fun _ => by simpa [q] using hb.symm, nofun⟩
          refine ⟨_, rfl, fl_imp (D := { nx := fun η s' => b1 = true ∧ (∃ c f o, η = [some (.tup cs), some (.tup (ls.map .str)), some (.int d), c, f, o]) ∧ s' = s, rt := fun _ _ => False, xc := fun _ x s' => b1 = false ∧ x = xBK ∧ s' = s }) ?_ (fun η s' ⟨q1, q2, q3⟩ => ⟨q2, h2 q1, q3⟩) (fun _ _ q => q.elim) (fun _ _ q => q.elim) (fun _ _ q => q.elim) (fun _ _ _ ⟨q1, q2, q3⟩ => ⟨h1 q1, q2, q3⟩)⟩
          by_cases hx : ∃ xs, x = .tup xs
          · obtain ⟨xs, rfl⟩ := hx
            array_mem_dec
            refine orF' rfl ?_
            match xs, hC with
            | [], hC =>
              array_mem_dec
              refine orT' rfl ?_
              refine iteT ?_
              array_mem_dec
              exact ⟨by simpa [lookC] using hC.symm, rfl, rfl⟩
            | a :: a' :: a'' :: as, hC =>
              array_mem_dec
              refine orF' (by simp [eqf]; omega) ?_
              array_mem_dec
              refine iteT' (by simp; omega) ?_
              array_mem_dec
              exact ⟨by simpa [lookC] using hC.symm, rfl, rfl⟩
            | [w], hC =>
              have hf : flat w = true := by
                cases q : flat w with
                | true => rfl
                | false => simp [lookC, q] at hC
              simp only [lookC, hf, if_true, Option.some.injEq] at hC
              array_mem_dec
              refine orF' rfl ?_
              array_mem_dec
              refine iteF' rfl ?_
              array_mem_dec
              refine iteT' rfl ?_
              array_mem_dec
              refine ⟨_, ne_flat hf, ?_⟩
              refine ⟨fun q1 => ?_, fun q1 => ?_⟩
              · array_mem_dec
                refine ⟨_, ne_flat hf, ?_⟩
                refine ⟨fun q2 => ?_, fun q2 => ?_⟩
                · array_mem_dec
                  exact ⟨by rw [← hC]; simp_all, rfl, rfl⟩
                · array_mem_dec
                  exact ⟨by rw [← hC]; simp_all, ⟨_, _, _, rfl⟩, rfl⟩
              · refine iteF ?_
                array_mem_dec
                exact ⟨by rw [← hC]; simp_all, ⟨_, _, _, rfl⟩, rfl⟩
            | [w, y], hC =>
              have hf : flat w = true := by
                cases q : flat w with
                | true => rfl
                | false => simp [lookC, q] at hC
              simp only [lookC, hf, if_true] at hC
              array_mem_dec
              refine orF' rfl ?_
              array_mem_dec
              refine iteF' rfl ?_
              array_mem_dec
              refine iteF' rfl ?_
              array_mem_dec
              refine ⟨_, eq_flat hf, ?_⟩
              refine ⟨fun q1 => ?_, fun q1 => ?_⟩
              · array_mem_dec
                refine ⟨_, eq_flat hf, ?_⟩
                refine ⟨fun q2 => ?_, fun q2 => ?_⟩
                · simp only [q2, Bool.or_true, if_true] at hC
                  array_mem_dec
                  refine (ih K y (d + 1) b1 _ hC).imp fun v s' ⟨a1, a2, a3⟩ => ?_
                  array_mem_dec
                  exact ⟨a1, ⟨_, _, _, rfl⟩, a3⟩
                · simp only [q1, q2, Bool.or_false, Bool.false_eq_true, if_false] at hC
                  array_mem_dec
                  refine ⟨_, eq_flat hf, ?_⟩
                  refine ⟨fun q3 => ?_, fun q3 => ?_⟩
                  · simp only [q3, if_true] at hC
                    obtain ⟨gb, hgb⟩ : ∃ gb, goodV y = some gb := by
                      cases q : goodV y with
                      | none => simp [lookS, q] at hC
                      | some gb => exact ⟨gb, rfl⟩
                    array_mem_dec
                    refine (good_fields_ok hw hg gS (K + n) y gb _ hgb).any.imp fun v s' ⟨e, e'⟩ => ?_
                    subst e e'
                    cases gb with
                    | false =>
                      refine ⟨_, rfl, iteT ?_⟩
                      array_mem_dec
                      exact ⟨by simpa [lookS, hgb] using hC.symm, rfl, rfl⟩
                    | true =>
                      refine ⟨_, rfl, iteF ?_⟩
                      obtain ⟨fs, rfl⟩ : ∃ fs, y = .tup fs := by
                        cases y with
                        | tup fs => exact ⟨fs, rfl⟩
                        | _ => cases hgb
                      simp only [lookS, hgb] at hC
                      array_mem_dec
                      rw [ckN]
                      refine for_suf (fun xs η s'' => (∃ c f o, η = [some (.tup cs), some (.tup (ls.map .str)), some (.int d), c, f, o]) ∧ lookFs (lookV n ls) (d + 1) xs = some b1 ∧ s'' = s') ⟨⟨_, _, _, rfl⟩, hC, rfl⟩ ?_ ?_
                      · rintro x r' η s' ⟨⟨c, f, o, rfl⟩, hb', rfl⟩
                        obtain ⟨f', k', rfl⟩ : ∃ f' k', x = .tup [f', k'] := by
                          unfold lookFs at hb'
                          split at hb'
                          · rename_i h'; cases h'
                          · rename_i f' k' _ h'; cases h'; exact ⟨_, _, rfl⟩
                          · cases hb'
                        refine ⟨_, rfl, ?_⟩
                        simp only [lookFs] at hb'
                        obtain ⟨b2, hC2, g1, g2⟩ : ∃ b2, lookV n ls k' (d + 1) = some b2 ∧ (b2 = false → b1 = false) ∧ (b2 = true → lookFs (lookV n ls) (d + 1) r' = some b1) := by
                          cases q : lookV n ls k' (d + 1) with
                          | none => simp [q] at hb'
                          | some b2 =>
                            cases b2 with
                            | true => exact ⟨true, rfl, nofun, fun _ => by simpa [q] using hb'⟩
                            | false => exact ⟨false, rfl, fun _ => by simpa [q] using hb'.symm, nofun⟩
                        array_mem_dec
                        refine (ih K k' (d + 1) b2 _ hC2).impX (fun v s' ⟨a1, a2, a3⟩ => ?_) (fun x s' ⟨a1, a2, a3⟩ => ⟨g1 a1, a2, a3⟩)
                        array_mem_dec
                        exact ⟨⟨_, _, _, rfl⟩, g2 a1, a3⟩
                      · rintro η s' ⟨⟨c, f, o, rfl⟩, hb', rfl⟩
                        array_mem_dec
                        exact ⟨by simpa [lookFs] using hb'.symm, ⟨_, _, _, rfl⟩, rfl⟩
                  · simp only [q3, Bool.false_eq_true, if_false] at hC
                    array_mem_dec
                    refine ⟨_, ne_flat hf, ?_⟩
                    cases q4 : hdE w kLetter with
                    | false =>
                      simp only [q4, Bool.false_eq_true, if_false, Option.some.injEq] at hC
                      refine orT ?_
                      refine iteT ?_
                      array_mem_dec
                      exact ⟨hC.symm, rfl, rfl⟩
                    | true =>
                      simp only [q4, if_true] at hC
                      refine orF ?_
                      array_mem_dec
                      refine ⟨!b1, by show (inV' _ y (ls.map .str)).map _ = _; rw [inS_ok hC]; rfl, ?_⟩
                      cases b1 with
                      | true =>
                        refine iteF ?_
                        array_mem_dec
                        exact ⟨rfl, ⟨_, _, _, rfl⟩, rfl⟩
                      | false =>
                        refine iteT ?_
                        array_mem_dec
                        exact ⟨rfl, rfl, rfl⟩
              · simp only [q1, Bool.true_or, if_true] at hC
                refine iteT ?_
                array_mem_dec
                refine (ih K y (d + 1) b1 _ hC).imp fun v s' ⟨a1, a2, a3⟩ => ?_
                array_mem_dec
                exact ⟨a1, ⟨_, _, _, rfl⟩, a3⟩
          · have hi : isiV .tuple x = some false ∧ b1 = false := by
              cases x with
              | tup xs => exact (hx ⟨xs, rfl⟩).elim
              | loc n => simp [lookC] at hC
              | _ => simp [lookC] at hC; exact ⟨rfl, hC⟩
            obtain ⟨hi, rfl⟩ := hi
            array_mem_dec
            refine ⟨_, hi, ?_⟩
            refine orT ?_
            refine iteT ?_
            array_mem_dec
            exact ⟨rfl, rfl, rfl⟩
        · rintro η s ⟨⟨c, f, o, rfl⟩, hb, rfl⟩
          array_mem_dec
          exact ⟨by simpa [lookCs] using hb.symm, by trivial, rfl⟩
    · have e2 : cs = [] := by
        have := eq_of_beq e1
        cases cs with
        | nil => rfl
        | cons _ _ => simp at this; omega
      subst e2
      refine iteT ?_
      array_mem_dec
      exact ⟨by simpa [lookV] using hb.symm, rfl, rfl⟩
  · have hi : isiV .tuple v = some false ∧ b = false := by
      cases v with
      | tup xs => exact (hv ⟨xs, rfl⟩).elim
      | loc n => simp [lookV] at hb
      | _ => simp [lookV] at hb; exact ⟨rfl, hb⟩
    obtain ⟨hi, rfl⟩ := hi
    array_mem_dec
    refine ⟨_, hi, ?_⟩
    refine orT ?_
    refine iteT ?_
    array_mem_dec
    exact ⟨rfl, rfl, rfl⟩
include hw hg hn hl gS gM in
theorem need_kind_ok (ls : List Txt) (n K : Nat) (v : Val) (b : Bool) (st : Store) (h : lookV n ls v 0 = some b) :
    RetX (fun x s => b = false ∧ x = xBK ∧ s = st) (callN p (K + n + 3) 2 [v, .tup (ls.map .str)] st) (fun r s => b = true ∧ r = .non ∧ s = st) := by
  refine call_of hn rfl ?_
  simp only [d_need_kind, List.map_cons, List.map_nil, List.length_cons, List.length_nil, List.cons_append, List.nil_append, Nat.reduceAdd, Nat.reduceSub, Nat.zero_add, Nat.add_zero, Nat.sub_self, Nat.sub_zero, List.replicate]
  array_mem_dec
  refine (look_ok hw hg hl gS gM ls n K v 0 b st h).imp fun v s' ⟨a1, a2, a3⟩ => ?_
  array_mem_dec
  exact ⟨a1, by trivial, a3⟩
end
end Mi
namespace Mi
/-! drawn kinds are kinds -/
theorem lookCs_tot {f : Val → Int → Option Bool} {ls : List Txt} {d : Int} : ∀ {cs : List Val}, (∀ c ∈ cs, ∃ b, lookC f ls d c = some b) → ∃ b, lookCs f ls d cs = some b
  | [], _ => ⟨true, rfl⟩
  | c :: r, h => by
    obtain ⟨b, e⟩ := h c (by simp)
    obtain ⟨b2, e2⟩ := lookCs_tot (cs := r) fun c hc => h c (by simp [hc])
    simp only [lookCs, e]
    cases b with
    | true => exact ⟨b2, e2⟩
    | false => exact ⟨false, rfl⟩
theorem lookCs_true {f : Val → Int → Option Bool} {ls : List Txt} {d : Int} : ∀ {cs : List Val}, (∀ c ∈ cs, lookC f ls d c = some true) → lookCs f ls d cs = some true
  | [], _ => rfl
  | c :: r, h => by simp only [lookCs, h c (by simp)]; exact lookCs_true fun c hc => h c (by simp [hc])
theorem lookCs_app {f : Val → Int → Option Bool} {ls : List Txt} {d : Int} {b : Bool} {rs : List Val} : ∀ {cs : List Val}, (∃ b, lookCs f ls d cs = some b) → lookCs f ls d rs = some b → lookCs f ls d (cs ++ rs) = some b ∨ lookCs f ls d (cs ++ rs) = some false
  | [], _, e => .inl e
  | c :: r, ⟨b1, h⟩, e => by
    simp only [List.cons_append, lookCs] at h ⊢
    cases q : lookC f ls d c with
    | none => rw [q] at h; cases h
    | some b2 =>
      cases b2 with
      | true => rw [q] at h; exact lookCs_app ⟨b1, h⟩ e
      | false => exact .inr rfl
theorem goodF_tot : ∀ (fs : List (Txt × List Ch)) (b : Txt), ∃ r, goodF (Ch.fs fs) b = some r
  | [], _ => ⟨true, rfl⟩
  | (f, ks) :: r, b => by
    simp only [Ch.fs, Ch.fd, goodF]
    split
    · exact goodF_tot r f
    · exact ⟨_, rfl⟩
theorem lookFs_tot {f : Val → Int → Option Bool} {d : Int} : ∀ {fs : List (Txt × List Ch)}, (∀ p ∈ fs, ∃ b, f (.tup (Ch.vs p.2)) d = some b) → ∃ b, lookFs f d (Ch.fs fs) = some b
  | [], _ => ⟨true, rfl⟩
  | (x, ks) :: r, h => by
    obtain ⟨b, e⟩ := h (x, ks) (by simp)
    obtain ⟨b2, e2⟩ := lookFs_tot (fs := r) fun c hc => h c (by simp [hc])
    simp only [Ch.fs, Ch.fd, lookFs, e]
    cases b with
    | true => exact ⟨b2, e2⟩
    | false => exact ⟨false, rfl⟩
theorem lookFs_true {f : Val → Int → Option Bool} {d : Int} : ∀ {fs : List (Txt × List Ch)}, (∀ p ∈ fs, f (.tup (Ch.vs p.2)) d = some true) → lookFs f d (Ch.fs fs) = some true
  | [], _ => rfl
  | (x, ks) :: r, h => by
    simp only [Ch.fs, Ch.fd, lookFs, h (x, ks) (by simp)]
    exact lookFs_true fun c hc => h c (by simp [hc])
theorem bw_hd (b : Bool) : (hdE (.str (bw b)) kRow || hdE (.str (bw b)) kBook) = true := by cases b <;> rfl
theorem bw_nhd (b : Bool) : flat (.str (bw b)) = true := rfl
theorem lookV_tot (ls : List Txt) : ∀ (n : Nat) (ks : List Ch) (e : Int), Ch.dps ks < n → ∃ b, lookV n ls (.tup (Ch.vs ks)) e = some b := by
  intro n
  induction n with
  | zero => intro ks e h; omega
  | succ n ih =>
    intro ks e h
    simp only [lookV]
    split
    · exact ⟨_, rfl⟩
    · refine lookCs_tot fun v hv => ?_
      rw [Ch.vs_map] at hv
      obtain ⟨k, hk, rfl⟩ := List.mem_map.mp hv
      have hd : k.dp ≤ n := Ch.dps_le.mp (by omega) k hk
      cases k with
      | num => exact ⟨_, rfl⟩
      | txt => exact ⟨_, rfl⟩
      | ltr x => exact ⟨_, rfl⟩
      | cut x hs => exact ⟨_, rfl⟩
      | som b => cases b <;> exact ⟨_, rfl⟩
      | wit f => exact ⟨_, rfl⟩
      | box b ks =>
        simp only [Ch.dp] at hd
        obtain ⟨r, hr⟩ := ih ks (e + 1) (by omega)
        refine ⟨r, ?_⟩
        simp only [Ch.v, lookC, bw_nhd, if_true, bw_hd]
        exact hr
      | shp fs =>
        simp only [Ch.dp] at hd
        show ∃ b, lookS (lookV n ls) (e + 1) (.tup (Ch.fs fs)) = some b
        simp only [lookS, goodV]
        split
        · exact lookFs_tot fun p hp => ih p.2 (e + 1) (by have := Ch.dpf_le.mp (Nat.le_refl _) p hp; omega)
        · rename_i q
          split at q
          · rename_i q2; rw [if_pos q2]; exact ⟨_, rfl⟩
          · rename_i q2
            rw [if_neg q2]
            exact goodF_tot fs []
theorem word_small {t : Txt} (h : Word t) : isWs smallT t = true := by
  have h1 := h.len
  have h2 : 1 ≤ t.length := List.length_pos_iff.mpr h.ne
  simp only [isWs, h1, h2, decide_true, Bool.true_and, List.all_eq_true, decide_eq_true_eq]
  intro x hx
  have := h.low x hx
  have e : ∀ x, 97 ≤ x → x ≤ 122 → x ∈ smallT := by
    intro x h1 h2
    have : ∀ y, y < 26 → (97 + y) ∈ smallT := by decide
    have := this (x - 97) (by omega)
    rwa [show 97 + (x - 97) = x by omega] at this
  exact e x this.1 this.2
theorem goodF_true : ∀ (fs : List (Txt × List Ch)) (b : Txt), (∀ f ∈ fs.map (·.1), Word f ∧ LtT b f) → (fs.map (·.1)).Pairwise LtT → goodF (Ch.fs fs) b = some true
  | [], _, _, _ => rfl
  | (f, ks) :: r, b, h, hp => by
    obtain ⟨h1, h2⟩ := h f (by simp)
    simp only [List.map_cons, List.pairwise_cons] at hp
    have h2' : ltT b f = true := h2
    simp only [Ch.fs, Ch.fd, goodF, word_small h1, h2', Bool.and_true, if_true]
    exact goodF_true r f (fun g hg => ⟨(h g (by simp only [List.map_cons, List.mem_cons]; exact .inr hg)).1, hp.1 g hg⟩) hp.2
theorem lt_nil {t : Txt} (h : t ≠ []) : LtT [] t := by
  cases t with
  | nil => exact (h rfl).elim
  | cons _ _ => rfl
theorem look_drawn (ls : List Txt) {N : Txt → Prop} (hN : ∀ f, N f → Word f) : ∀ (d n : Nat) (ks : List Ch) (e : Int), KOk (· ∈ ls) N d ks → e + d ≤ 8 → d < n → lookV n ls (.tup (Ch.vs ks)) e = some true := by
  intro d
  induction d with
  | zero =>
    intro n ks e h he hn
    obtain ⟨n, rfl⟩ : ∃ m, n = m + 1 := ⟨n - 1, by omega⟩
    have ne : Ch.vs ks ≠ [] := by rw [Ch.vs_map]; intro z; have := h.1.1; simp at z; subst z; simp at this
    have e8 : ¬ (8 : Int) < e := by omega
    simp only [lookV, ne, e8, or_self, if_false]
    refine lookCs_true fun v hv => ?_
    rw [Ch.vs_map] at hv
    obtain ⟨k, hk, rfl⟩ := List.mem_map.mp hv
    have q := h.2 k hk
    cases k with
    | num => rfl
    | txt => rfl
    | ltr x =>
      show some (decide (x ∈ ls)) = some true
      rw [decide_eq_true (show x ∈ ls from q)]
    | _ => exact q.elim
  | succ d ih =>
    intro n ks e h he hn
    obtain ⟨n, rfl⟩ : ∃ m, n = m + 1 := ⟨n - 1, by omega⟩
    have ne : Ch.vs ks ≠ [] := by rw [Ch.vs_map]; intro z; have := h.1.1; simp at z; subst z; simp at this
    have e8 : ¬ (8 : Int) < e := by omega
    simp only [lookV, ne, e8, or_self, if_false]
    refine lookCs_true fun v hv => ?_
    rw [Ch.vs_map] at hv
    obtain ⟨k, hk, rfl⟩ := List.mem_map.mp hv
    have q := h.2 k hk
    cases k with
    | num => rfl
    | txt => rfl
    | ltr x =>
      show some (decide (x ∈ ls)) = some true
      rw [decide_eq_true (show x ∈ ls from q)]
    | box b ks =>
      simp only [Ch.v, lookC, bw_nhd, if_true, bw_hd]
      exact ih n ks (e + 1) q (by omega) (by omega)
    | shp fs =>
      obtain ⟨q1, q2, q3, q4⟩ := q
      show lookS (lookV n ls) (e + 1) (.tup (Ch.fs fs)) = some true
      have fne : Ch.fs fs ≠ [] := by rw [Ch.fs_map]; intro z; simp at z; subst z; simp at q1
      have hg : goodV (.tup (Ch.fs fs)) = some true := by
        simp only [goodV, fne, if_false]
        exact goodF_true fs [] (fun f hf => ⟨hN f (q3 f hf), lt_nil (hN f (q3 f hf)).ne⟩) q2
      simp only [lookS, hg]
      exact lookFs_true fun p hp => ih n p.2 (e + 1) (q4 p hp) (by omega) (by omega)
    | _ => exact q.elim
theorem COk.dpx {L N : Txt → Prop} : ∀ {d : Nat} {c : Ch}, COk L N d c → c.dp ≤ d := by
  intro d
  induction d with
  | zero => intro c h; cases c <;> first | exact h.elim | exact Nat.le_refl 0
  | succ d ih =>
    intro c h
    cases c with
    | box b ks => simp only [Ch.dp]; exact Nat.succ_le_succ (Ch.dps_le.mpr fun k hk => ih (h.2 k hk))
    | shp fs => simp only [Ch.dp]; exact Nat.succ_le_succ (Ch.dpf_le.mpr fun f hf => Ch.dps_le.mpr fun k hk => ih ((h.2.2.2 f hf).2 k hk))
    | num => exact Nat.zero_le _
    | txt => exact Nat.zero_le _
    | ltr x => exact Nat.zero_le _
    | _ => exact h.elim
end Mi
namespace Mi
/-! programs that are none: need_program -/
inductive Vd where | ok | kind | prog | name | twice
  deriving DecidableEq
def xV : Vd → Exn
  | .ok => ⟨0, [], []⟩
  | .kind => ⟨1, [], []⟩
  | .prog => ⟨2, [], []⟩
  | .name => ⟨3, [], []⟩
  | .twice => ⟨4, [], []⟩
def seqD (a b : Option Vd) : Option Vd := match a with
  | some .ok => b
  | o => o
def mD (b : Option Bool) : Option Vd := b.map fun b => if b then .ok else .prog
def kindD (ls : List Txt) (v : Val) : Option Vd := (lookV 20 ls v 0).map fun b => if b then .ok else .kind
def kindsD (ls : List Txt) : List Val → Option Vd
  | [] => some .ok
  | k :: r => seqD (kindD ls k) (kindsD ls r)
def greatT : Txt := [65, 66, 67, 68, 69, 70, 71, 72, 73, 74, 75, 76, 77, 78, 79, 80, 81, 82, 83, 84, 85, 86, 87, 88, 89, 90]
def signsT : Txt := [32, 33, 34, 35, 36, 38, 39, 40, 41, 42, 43, 44, 45, 46, 47, 48, 49, 50, 51, 52, 53, 54, 55, 56, 57, 58, 59, 60, 61, 62, 63, 64, 65, 66, 67, 68, 69, 70, 71, 72, 73, 74, 75, 76, 77, 78, 79, 80, 81, 82, 83, 84, 85, 86, 87, 88, 89, 90, 91, 92, 93, 94, 95, 96, 97, 98, 99, 100, 101, 102, 103, 104, 105, 106, 107, 108, 109, 110, 111, 112, 113, 114, 115, 116, 117, 118, 119, 120, 121, 122, 123, 124, 125, 126]
abbrev wNum : Txt := [110, 117, 109]
abbrev wText : Txt := [116, 101, 120, 116]
abbrev wName : Txt := [110, 97, 109, 101]
abbrev wRow : Txt := [114, 111, 119]
abbrev wNorow : Txt := [110, 111, 114, 111, 119]
abbrev wNobook : Txt := [110, 111, 98, 111, 111, 107]
abbrev wShape : Txt := [115, 104, 97, 112, 101]
abbrev wGet : Txt := [103, 101, 116]
abbrev wSize : Txt := [115, 105, 122, 101]
abbrev wLet : Txt := [108, 101, 116]
abbrev wEach : Txt := [101, 97, 99, 104]
abbrev wFold : Txt := [102, 111, 108, 100]
abbrev wIs : Txt := [105, 115]
abbrev wHas : Txt := [104, 97, 115]
abbrev wCall : Txt := [99, 97, 108, 108]
def sizesK : List Txt := [[110, 117, 109], [116, 101, 120, 116], [110, 97, 109, 101], [114, 111, 119], [110, 111, 114, 111, 119], [110, 111, 98, 111, 111, 107], [115, 104, 97, 112, 101], [103, 101, 116], [115, 105, 122, 101], [112, 108, 117, 115], [109, 105, 110, 117, 115], [106, 111, 105, 110], [112, 117, 115, 104], [97, 116], [112, 117, 116], [108, 111, 111, 107], [108, 101, 116], [101, 97, 99, 104], [102, 111, 108, 100], [105, 102], [105, 115], [104, 97, 115], [99, 97, 108, 108]]
def sizesN : List Nat := [2, 2, 2, 2, 2, 2, 2, 3, 2, 3, 3, 3, 3, 4, 4, 4, 4, 4, 7, 5, 5, 5, 4]
def sizesX : List Val := [(.int 2), (.int 2), (.int 2), (.int 2), (.int 2), (.int 2), (.int 2), (.int 3), (.int 2), (.int 3), (.int 3), (.int 3), (.int 3), (.int 4), (.int 4), (.int 4), (.int 4), (.int 4), (.int 7), (.int 5), (.int 5), (.int 5), (.int 4)]
def szL (w : Txt) : List Txt → List Nat → Option Nat
  | k :: ks, n :: ns => if k = w then some n else szL w ks ns
  | _, _ => none
def szOf (w : Txt) : Option Nat := szL w sizesK sizesN
def headsT : List Txt := [[110, 117, 109, 98, 101, 114], [116, 101, 120, 116], [114, 111, 119], [98, 111, 111, 107], [115, 104, 97, 112, 101]]
def plainW : List Txt := [wNum, wText, wRow, wNorow, wNobook, wShape, wGet]
def newW : List Txt := [wLet, wEach, wFold]
def nameW : List Txt := [wName, wIs, wHas]
def leafW : List Txt := [wNum, wText, wName, wNorow, wNobook]
def nl : Val → Bool
  | .loc _ => false
  | _ => true
def numD : Val → Option Vd
  | .int i => some (if -(10 ^ 30 : Int) < i ∧ i < 10 ^ 30 then .ok else .prog)
  | .loc _ => none
  | _ => some .prog
def textD : Val → Option Vd
  | .str t => if t.length ≤ 1000000 then some (if t.all (fun c => decide (c ∈ signsT)) = true then .ok else .prog) else none
  | .loc _ => none
  | _ => some .prog
def rowD : Val → Option Vd
  | .tup xs => some (if xs = [] then .prog else .ok)
  | .loc _ => none
  | _ => some .prog
def plainD (ls : List Txt) (w : Txt) : List Val → Option Vd
  | x :: r => if w = wNum then numD x else if w = wText then textD x else if w = wRow then rowD x else if w = wShape then mD (goodV x) else if w = wGet then (match r with
    | y :: _ => mD (isWV smallT y)
    | [] => none) else kindD ls x
  | [] => none
def eqS : Val → Val → Bool
  | .str a, .str b => a == b
  | _, _ => false
def newN (ls : List Txt) (w : Txt) : List Val → Option Vd
  | a :: r => seqD (mD (isWV smallT a)) (if w = wFold then (match r with
    | _ :: b :: k :: _ => seqD (mD (isWV smallT b)) (if eqS a b = true then some .twice else kindD ls k)
    | _ => none) else some .ok)
  | [] => none
def nameD (names : List Txt) (w : Txt) : List Val → Option Vd
  | a :: r => (match inS names a with
    | none => none
    | some false => some .name
    | some true => if w = wIs then (match r with
      | h :: _ => mD (inS headsT h)
      | [] => none) else if w = wHas then (match r with
      | h :: _ => mD (isWV smallT h)
      | [] => none) else some .ok)
  | [] => none
def callD (eks : List Txt) (exs : List Val) (ls : List Txt) : List Val → Option Vd
  | [f, ks, ps] => (match f, ks, ps with
    | .str f, .tup ks, .tup ps => (match look f eks exs with
      | none => some .name
      | some (.tup [_, .tup as, .tup bs, _, _]) => if ks.length = as.length ∧ ps.length = bs.length then kindsD ls ks else some .prog
      | _ => none)
    | f, ks, ps => if nl f && (nl ks && nl ps) then some .prog else none)
  | _ => none
def chkD (eks : List Txt) (exs : List Val) (ls names : List Txt) (w : Txt) (r : List Val) : Option Vd :=
  if w ∈ plainW then plainD ls w r else if w ∈ newW then newN ls w r else if w = wCall then callD eks exs ls r else if w ∈ nameW then nameD names w r else some .ok
def shPs : List Val → Option (List (Val × List Txt))
  | [] => some []
  | .tup [_, x] :: r => (shPs r).map ((x, []) :: ·)
  | _ => none
def lenOk (xs : List Val) : Option (List (Val × List Txt)) := if xs.length ≤ 1000000 then some (xs.map fun x => (x, [])) else none
def partsOf (w : Txt) (r : List Val) : Option (List (Val × List Txt)) :=
  if w ∈ leafW then some [] else if w = wRow then (match r with
    | [.tup xs] => lenOk xs
    | _ => none) else if w = wShape then (match r with
    | [.tup xs] => if xs.length ≤ 1000000 then shPs xs else none
    | _ => none) else if w = wCall then (match r with
    | [_, _, .tup xs] => lenOk xs
    | _ => none) else if w = wGet ∨ w = wSize then (match r with
    | x :: _ => some [(x, [])]
    | _ => none) else if w = wLet ∨ w = wEach then (match r with
    | [.str a, x, y] => some [(x, []), (y, [a])]
    | _ => none) else if w = wFold then (match r with
    | [.str a, x, .str b, _, y, z] => some [(x, []), (y, []), (z, [a, b])]
    | _ => none) else if w = wIs ∨ w = wHas then (match r with
    | [_, _, x, y] => some [(x, []), (y, [])]
    | _ => none) else lenOk r
def lookPs (f : Val → List Txt → Option Vd) : List (Val × List Txt) → Option Vd
  | [] => some .ok
  | q :: r => seqD (f q.1 q.2) (lookPs f r)
def lookP (eks : List Txt) (exs : List Val) (ls : List Txt) : Nat → Val → List Txt → Int → Option Vd
  | 0, _, _, _ => none
  | n + 1, v, names, d => (match v with
    | .tup [] => some .prog
    | .tup (x :: r) => (match x with
      | .str w => if 12 < d then some .prog else (match szOf w with
        | none => some .prog
        | some k => if r.length + 1 = k then seqD (chkD eks exs ls names w r) (match partsOf w r with
          | some ps => lookPs (fun one nw => lookP eks exs ls n one (names ++ nw) (d + 1)) ps
          | none => none) else some .prog)
      | .loc _ => none
      | _ => some .prog)
    | .loc _ => none
    | _ => some .prog)
def pV (q : Val × List Txt) : Val := .tup [q.1, .tup (q.2.map .str)]
theorem seq_ok {a b : Option Vd} {d : Vd} (h : seqD a b = some d) : (a = some .ok ∧ b = some d) ∨ (a = some d ∧ d ≠ .ok) := by
  cases a with
  | none => cases h
  | some x =>
    cases x with
    | ok => exact .inl ⟨rfl, h⟩
    | _ => simp only [seqD, Option.some.injEq] at h; subst h; exact .inr ⟨rfl, nofun⟩
theorem mD_ok {o : Option Bool} {d : Vd} (h : mD o = some d) : ∃ b, o = some b ∧ d = if b then .ok else .prog := by
  cases o with
  | none => cases h
  | some b => exact ⟨b, rfl, by simpa [mD] using h.symm⟩
theorem kindD_ok {ls : List Txt} {v : Val} {d : Vd} (h : kindD ls v = some d) : ∃ b, lookV 20 ls v 0 = some b ∧ d = if b then .ok else .kind := by
  unfold kindD at h
  cases q : lookV 20 ls v 0 with
  | none => rw [q] at h; cases h
  | some b => rw [q] at h; exact ⟨b, rfl, by simpa using h.symm⟩
theorem isi_tup {v : Val} (h : nl v = true) : isiV .tuple v = some (isTup v) := by cases v <;> first | rfl | cases h
def isStr : Val → Bool
  | .str _ => true
  | _ => false
theorem isi_str {v : Val} (h : nl v = true) : isiV .str v = some (isStr v) := by cases v <;> first | rfl | cases h
theorem in_strs' {st : Store} {f : Txt} : ∀ {ts : List Txt}, inV' st (.str f) (ts.map .str) = some (decide (f ∈ ts)) := fun {ts} => inS_ok (ls := ts) (v := .str f) rfl
theorem cut_one {st : Store} {x : Val} {r : List Val} : slV st (.tup (x :: r)) (some 1) none = some (.tup r) := by
  have e : cut (x :: r) (some 1) none = r := by
    have h1 : HT.sIx (x :: r).length 0 (some 1) = 1 := by
      show min 1 (x :: r).length = 1
      simp
    have h2 : HT.sIx (x :: r).length (x :: r).length none = (x :: r).length := rfl
    simp only [cut, h1, h2]
    simp
  simp only [slV, e]
end Mi
namespace Mi
local macro_rules | `(tactic| array_mem_dec) => `(tactic| repeat (first | (with_reducible apply t_seq) | (with_reducible apply t_skip) | (with_reducible apply t_asg) | (with_reducible apply t_ret) | (with_reducible apply t_expr) | (with_reducible apply t_put) | (with_reducible apply t_ite) | (with_reducible apply t_for) | (with_reducible apply t_asgT) | (with_reducible apply t_setf) | (with_reducible apply t_raise) | (with_reducible apply t_retN) | (with_reducible apply t_brk) | (with_reducible apply t_cont) | ((with_reducible apply v_var); rfl) | ((with_reducible apply b_var); rfl) | ((with_reducible apply i_var); rfl) | ((with_reducible apply v_glb); first | assumption | rfl) | (with_reducible apply v_fld) | (with_reducible apply v_meth) | (with_reducible apply b_fld) | (with_reducible apply b_meth) | (with_reducible apply i_fld) | (with_reducible apply i_meth) | (with_reducible apply v_lit) | (with_reducible apply v_ix) | (with_reducible apply v_bin) | (with_reducible apply v_cmp) | (with_reducible apply v_call) | (with_reducible apply v_tup) | (with_reducible apply v_lst) | (with_reducible apply v_new) | (with_reducible apply v_fn) | (with_reducible apply v_isi) | (with_reducible apply v_mt) | (with_reducible apply v_and) | (with_reducible apply v_or) | (with_reducible apply v_not) | (with_reducible apply v_ite) | (with_reducible apply v_neg) | (with_reducible apply v_chain) | (with_reducible apply v_isN) | (with_reducible apply v_isB) | (with_reducible apply v_lc) | (with_reducible apply a_cons) | (with_reducible apply a_nil) | (with_reducible apply b_cmp) | (with_reducible apply b_and) | (with_reducible apply b_or) | (with_reducible apply b_not) | (with_reducible apply b_call) | (with_reducible apply b_isi) | (with_reducible apply b_lit) | (with_reducible apply b_isN) | (with_reducible apply b_isB) | (with_reducible apply b_chain) | (with_reducible apply b_mt) | (with_reducible apply b_fn) | (with_reducible apply i_rng) | (with_reducible apply i_ix) | (with_reducible apply i_fn) | (with_reducible apply i_call) | (with_reducible apply i_bin) | (with_reducible apply i_lst) | (with_reducible apply i_sortK) | (with_reducible apply i_tup) | (with_reducible apply i_lc) | (with_reducible apply v_dcpy) | (with_reducible apply v_lnew) | (with_reducible apply v_dget) | (with_reducible apply v_kin) | (with_reducible apply v_kix) | (with_reducible apply b_kin) | (with_reducible apply ie_t0) | (with_reducible apply ie_t1) | (with_reducible apply ie_t2) | (with_reducible apply ie_t3) | (with_reducible apply ie_t4) | (with_reducible apply ie_t5) | (with_reducible apply ie_t6) | refine ⟨Nat.le_of_ble_eq_true rfl, ?_⟩ | refine ⟨_, rfl, ?_⟩))
/-! walks of the looks at a part -/
abbrev SayE (d : Vd) (st : Store) (x : Exn) (s : Store) : Prop := d ≠ .ok ∧ x = xV d ∧ s = st
abbrev SayQ (d : Vd) (st : Store) (v : Val) (s : Store) : Prop := d = .ok ∧ v = .non ∧ s = st
section
variable {p : Prg} (hw : FAt p 0 d_is_word) (hg : FAt p 1 d_good_fields) (hn : FAt p 2 d_need_kind) (hl : FAt p 3 d_look_through)
variable (hm : FAt p 5 d_must) (hpo : FAt p 4 d_parts_of)
variable (hS : FAt p 7 d_Scope_look) (hSp : FAt p 8 d_Scope_look_plain) (hSn : FAt p 9 d_Scope_look_new) (hSm : FAt p 10 d_Scope_look_name) (hSc : FAt p 11 d_Scope_look_call)
variable {nS nM n1 n2 n3 n4 n5 n6 n7 : Txt} (gS : GAt p 0 (nS, .str smallT)) (gM : GAt p 2 (nM, .int 8)) (gZ : GAt p 3 (n1, .dct sizesK sizesX)) (gH : GAt p 4 (n2, .tup (headsT.map .str))) (gG : GAt p 5 (n3, .str signsT)) (gF : GAt p 6 (n4, .int 12)) (gP : GAt p 7 (n5, .int 12)) (gT : GAt p 8 (n6, .int (10 ^ 30))) (gR : GAt p 1 (n7, .str greatT))
include hm in
theorem must_x {K : Nat} {b : Bool} {st : Store} {E : Exn → Store → Prop} {Q : Val → Store → Prop} (h1 : b = true → Q .non st) (h2 : b = false → E (xV .prog) st) : RetX E (callN p (K + 1) 5 [.bl b] st) Q := by
  refine call_of hm rfl ?_
  simp only [d_must, List.map_cons, List.map_nil, List.length_cons, List.length_nil, List.cons_append, List.nil_append, Nat.reduceAdd, Nat.reduceSub, Nat.zero_add, Nat.add_zero, Nat.sub_self, Nat.sub_zero, List.replicate]
  array_mem_dec
  refine ⟨fun e => ?_, fun e => ?_⟩
  · array_mem_dec
    exact h2 (by simpa using e)
  · array_mem_dec
    exact h1 (by simpa using e)
include hw hg hn hl gS gM in
theorem kind_x {K : Nat} {ls : List Txt} {v : Val} {d : Vd} {st : Store} {E : Exn → Store → Prop} {Q : Val → Store → Prop} (h : kindD ls v = some d) (h1 : d = .ok → Q .non st) (h2 : d = .kind → E (xV .kind) st) :
    RetX E (callN p (K + 23) 2 [v, .tup (ls.map .str)] st) Q := by
  obtain ⟨b, hb, e⟩ := kindD_ok h
  refine (need_kind_ok hw hg hn hl gS gM ls 20 K v b st hb).impX (fun v s ⟨a1, a2, a3⟩ => ?_) (fun x s ⟨a1, a2, a3⟩ => ?_)
  · subst a1 a2 a3; exact h1 e
  · subst a1 a2 a3; exact h2 e
include hw hg hn hl hm hSp gS gM gG gT in
theorem plain_ok (K : Nat) (i : Nat) (ls : List Txt) (w : Txt) (r : List Val) (d : Vd) (st : Store) (y : Val) (hw2 : w ∈ plainW) (hd : plainD ls w r = some d) (hi : st[i]? = some (.ins 0 [[108, 101, 116, 116, 101, 114, 115], [101, 97, 114, 108, 105, 101, 114]] [.tup (ls.map .str), y])) :
    RetX (SayE d st) (callN p (K + 24) 8 [.loc i, .tup (.str w :: r)] st) (SayQ d st) := by
  obtain ⟨x, r, rfl⟩ : ∃ x r', r = x :: r' := by
    cases r with
    | nil => cases hd
    | cons x r => exact ⟨_, _, rfl⟩
  simp only [plainD] at hd
  refine call_of hSp rfl ?_
  simp only [d_Scope_look_plain, List.map_cons, List.map_nil, List.length_cons, List.length_nil, List.cons_append, List.nil_append, Nat.reduceAdd, Nat.reduceSub, Nat.zero_add, Nat.add_zero, Nat.sub_self, Nat.sub_zero, List.replicate]
  array_mem_dec
  array_mem_dec
  array_mem_dec
  refine ⟨fun e => ?_, fun e => ?_⟩
  · have e : w = wNum := eq_of_beq e
    simp only [e, if_true] at hd
    have hx : nl x = true := by cases x <;> first | rfl | cases hd
    by_cases hxi : ∃ j, x = .int j
    · obtain ⟨j, rfl⟩ := hxi
      array_mem_dec
      refine iteT' rfl ?_
      array_mem_dec
      refine must_x hm (fun _ => ?_) (fun z => nomatch z)
      array_mem_dec
      have hd : d = if -(10 ^ 30 : Int) < j ∧ j < 10 ^ 30 then .ok else .prog := by simpa [numD] using hd.symm
      refine ⟨fun e1 => ?_, fun e1 => ?_⟩
      · have e1 : -(10 ^ 30 : Int) < j := by have := of_decide_eq_true e1; simpa using this
        array_mem_dec
        refine must_x hm (fun z => ?_) (fun z => ?_)
        · have z := of_decide_eq_true z
          array_mem_dec
          exact ⟨by rw [hd, if_pos ⟨e1, z⟩], by trivial, rfl⟩
        · have z := of_decide_eq_false z
          rw [hd, if_neg (fun q => z q.2)]
          exact ⟨nofun, rfl, rfl⟩
      · have e1 : ¬ -(10 ^ 30 : Int) < j := by have := of_decide_eq_false e1; simpa using this
        array_mem_dec
        refine must_x hm (fun z => nomatch z) (fun _ => ?_)
        rw [hd, if_neg (fun q => e1 q.1)]
        exact ⟨nofun, rfl, rfl⟩
    · have hd : d = .prog := by cases x <;> first | exact (hxi ⟨_, rfl⟩).elim | cases hd <;> rfl
      subst hd
      by_cases hb : ∃ j, x = .bl j
      · obtain ⟨j, rfl⟩ := hb
        array_mem_dec
        refine iteT' rfl ?_
        array_mem_dec
        refine must_x hm (fun z => nomatch z) (fun _ => ?_)
        exact ⟨nofun, rfl, rfl⟩
      · have hi2 : isiV .int x = some false := by cases x <;> first | rfl | exact (hxi ⟨_, rfl⟩).elim | exact (hb ⟨_, rfl⟩).elim | cases hx
        array_mem_dec
        refine ⟨_, hi2, ?_⟩
        array_mem_dec
        refine iteF' rfl ?_
        array_mem_dec
        refine must_x hm (fun z => nomatch z) (fun _ => ?_)
        exact ⟨nofun, rfl, rfl⟩
  have n1 : ¬ w = wNum := fun q => by rw [q] at e; cases e
  simp only [n1, if_false] at hd
  array_mem_dec
  array_mem_dec
  refine ⟨fun e => ?_, fun e => ?_⟩
  · have e : w = wText := eq_of_beq e
    simp only [e, if_true] at hd
    by_cases hxi : ∃ t, x = .str t
    · obtain ⟨t, rfl⟩ := hxi
      simp only [textD] at hd
      split at hd
      · rename_i hlen
        have hd := (Option.some.inj hd).symm
        array_mem_dec
        refine must_x hm (fun _ => ?_) (fun z => nomatch z)
        array_mem_dec
        rw [ckN]
        refine lc_pure (fun _ => true) (fun x => match x with | .str [c] => .bl (decide (c ∈ signsT)) | v => v) _ _ (fun x hx => ?_) ?_ ?_
        · obtain ⟨c, _, rfl⟩ := List.mem_map.mp hx
          refine ⟨_, rfl, b_lit ⟨rfl, rfl⟩, fun _ => ?_⟩
          array_mem_dec
          exact ⟨rfl, rfl⟩
        · simp [show PySem.sizeLine = 16777216 from rfl]; omega
        have fe : ([] : List Val) ++ List.map (fun x => match x with | .str [c] => .bl (decide (c ∈ signsT)) | v => v) (List.filter (fun _ => true) (t.map fun c => Val.str [c])) = (t.map fun c => decide (c ∈ signsT)).map .bl := by
          rw [List.filter_eq_self.mpr (fun _ _ => rfl), List.map_map, List.map_map]; rfl
        rw [fe]
        array_mem_dec
        refine ⟨_, (by simp only [fnV, asL, Option.bind, bls_map, Option.map]; rfl), ?_⟩
        array_mem_dec
        refine must_x hm (fun z => ?_) (fun z => ?_)
        · array_mem_dec
          exact ⟨by rw [hd, if_pos (by simpa [List.all_map, Function.comp_def] using z)], by trivial, rfl⟩
        · rw [hd, if_neg (by simpa [List.all_map, Function.comp_def] using z)]
          exact ⟨nofun, rfl, rfl⟩
      · cases hd
    · have hx : nl x = true := by cases x <;> first | rfl | cases hd
      have hd : d = .prog := by cases x <;> first | exact (hxi ⟨_, rfl⟩).elim | cases hd <;> rfl
      subst hd
      have hs : isStr x = false := by cases x <;> first | rfl | exact (hxi ⟨_, rfl⟩).elim
      array_mem_dec
      refine ⟨_, isi_str hx, ?_⟩
      rw [hs]
      array_mem_dec
      refine must_x hm (fun z => nomatch z) (fun _ => ?_)
      exact ⟨nofun, rfl, rfl⟩
  have n2 : ¬ w = wText := fun q => by rw [q] at e; cases e
  simp only [n2, if_false] at hd
  array_mem_dec
  array_mem_dec
  refine ⟨fun e => ?_, fun e => ?_⟩
  · have e : w = wRow := eq_of_beq e
    simp only [e, if_true] at hd
    have hx : nl x = true := by cases x <;> first | rfl | cases hd
    by_cases hxi : ∃ t, x = .tup t
    · obtain ⟨t, rfl⟩ := hxi
      have hd : d = if t = [] then .prog else .ok := by simpa [rowD] using hd.symm
      array_mem_dec
      refine iteT' rfl ?_
      array_mem_dec
      refine must_x hm (fun z => ?_) (fun z => ?_)
      · have z := of_decide_eq_true z
        array_mem_dec
        exact ⟨by rw [hd, if_neg (by rintro rfl; simp at z)], by trivial, rfl⟩
      · have z := of_decide_eq_false z
        rw [hd, if_pos (by cases t with | nil => rfl | cons _ _ => simp at z)]
        exact ⟨nofun, rfl, rfl⟩
    · have hd : d = .prog := by cases x <;> first | exact (hxi ⟨_, rfl⟩).elim | cases hd <;> rfl
      subst hd
      have hs : isTup x = false := by cases x <;> first | rfl | exact (hxi ⟨_, rfl⟩).elim
      array_mem_dec
      refine ⟨_, isi_tup hx, ?_⟩
      rw [hs]
      array_mem_dec
      refine iteF' rfl ?_
      array_mem_dec
      refine must_x hm (fun z => nomatch z) (fun _ => ?_)
      exact ⟨nofun, rfl, rfl⟩
  have n3 : ¬ w = wRow := fun q => by rw [q] at e; cases e
  simp only [n3, if_false] at hd
  array_mem_dec
  array_mem_dec
  refine ⟨fun e => ?_, fun e => ?_⟩
  · have e : w = wShape := eq_of_beq e
    simp only [e, if_true] at hd
    obtain ⟨b, hb, rfl⟩ := mD_ok hd
    array_mem_dec
    refine (good_fields_ok hw hg gS (K + 21) x b st hb).any.imp fun v s ⟨e1, e2⟩ => ?_
    subst e1 e2
    array_mem_dec
    refine must_x hm (fun z => ?_) (fun z => ?_)
    · subst z
      array_mem_dec
      exact ⟨rfl, by trivial, rfl⟩
    · subst z
      exact ⟨nofun, rfl, rfl⟩
  have n4 : ¬ w = wShape := fun q => by rw [q] at e; cases e
  simp only [n4, if_false] at hd
  array_mem_dec
  array_mem_dec
  refine ⟨fun e => ?_, fun e => ?_⟩
  · have e : w = wGet := eq_of_beq e
    simp only [e, if_true] at hd
    obtain ⟨y2, r', rfl⟩ : ∃ y r', r = y :: r' := by
      cases r with
      | nil => cases hd
      | cons x r => exact ⟨_, _, rfl⟩
    obtain ⟨b, hb, rfl⟩ := mD_ok hd
    array_mem_dec
    array_mem_dec
    refine (is_word_ok hw (K + 22) smallT y2 b st hb).any.imp fun v s ⟨e1, e2⟩ => ?_
    subst e1 e2
    array_mem_dec
    refine must_x hm (fun z => ?_) (fun z => ?_)
    · subst z
      array_mem_dec
      exact ⟨rfl, by trivial, rfl⟩
    · subst z
      exact ⟨nofun, rfl, rfl⟩
  have n5 : ¬ w = wGet := fun q => by rw [q] at e; cases e
  simp only [n5, if_false] at hd
  array_mem_dec
  refine ⟨.tup (ls.map .str), by simp only [fldV, hi]; rfl, ?_⟩
  array_mem_dec
  refine kind_x hw hg hn hl gS gM hd (fun z => ?_) (fun z => ?_)
  · array_mem_dec
    exact ⟨z, by trivial, rfl⟩
  · subst z
    exact ⟨nofun, rfl, rfl⟩
end
end Mi
namespace Mi
local macro_rules | `(tactic| array_mem_dec) => `(tactic| repeat (first | (with_reducible apply t_seq) | (with_reducible apply t_skip) | (with_reducible apply t_asg) | (with_reducible apply t_ret) | (with_reducible apply t_expr) | (with_reducible apply t_put) | (with_reducible apply t_ite) | (with_reducible apply t_for) | (with_reducible apply t_asgT) | (with_reducible apply t_setf) | (with_reducible apply t_raise) | (with_reducible apply t_retN) | (with_reducible apply t_brk) | (with_reducible apply t_cont) | ((with_reducible apply v_var); rfl) | ((with_reducible apply b_var); rfl) | ((with_reducible apply i_var); rfl) | ((with_reducible apply v_glb); first | assumption | rfl) | (with_reducible apply v_fld) | (with_reducible apply v_meth) | (with_reducible apply b_fld) | (with_reducible apply b_meth) | (with_reducible apply i_fld) | (with_reducible apply i_meth) | (with_reducible apply v_lit) | (with_reducible apply v_ix) | (with_reducible apply v_bin) | (with_reducible apply v_cmp) | (with_reducible apply v_call) | (with_reducible apply v_tup) | (with_reducible apply v_lst) | (with_reducible apply v_new) | (with_reducible apply v_fn) | (with_reducible apply v_isi) | (with_reducible apply v_mt) | (with_reducible apply v_and) | (with_reducible apply v_or) | (with_reducible apply v_not) | (with_reducible apply v_ite) | (with_reducible apply v_neg) | (with_reducible apply v_chain) | (with_reducible apply v_isN) | (with_reducible apply v_isB) | (with_reducible apply v_lc) | (with_reducible apply a_cons) | (with_reducible apply a_nil) | (with_reducible apply b_cmp) | (with_reducible apply b_and) | (with_reducible apply b_or) | (with_reducible apply b_not) | (with_reducible apply b_call) | (with_reducible apply b_isi) | (with_reducible apply b_lit) | (with_reducible apply b_isN) | (with_reducible apply b_isB) | (with_reducible apply b_chain) | (with_reducible apply b_mt) | (with_reducible apply b_fn) | (with_reducible apply i_rng) | (with_reducible apply i_ix) | (with_reducible apply i_fn) | (with_reducible apply i_call) | (with_reducible apply i_bin) | (with_reducible apply i_lst) | (with_reducible apply i_sortK) | (with_reducible apply i_tup) | (with_reducible apply i_lc) | (with_reducible apply v_dcpy) | (with_reducible apply v_lnew) | (with_reducible apply v_dget) | (with_reducible apply v_kin) | (with_reducible apply v_kix) | (with_reducible apply b_kin) | (with_reducible apply ie_t0) | (with_reducible apply ie_t1) | (with_reducible apply ie_t2) | (with_reducible apply ie_t3) | (with_reducible apply ie_t4) | (with_reducible apply ie_t5) | (with_reducible apply ie_t6) | refine ⟨Nat.le_of_ble_eq_true rfl, ?_⟩ | refine ⟨_, rfl, ?_⟩))
theorem isWV_true {s : Txt} {v : Val} (h : isWV s v = some true) : ∃ t, v = .str t ∧ isWs s t = true := by
  cases v <;> first | (cases h; done) | exact ⟨_, rfl, by simpa [isWV] using h⟩
theorem lit_in {z : Bool} {ts : List Txt} {w : Txt} (h : inV' ([] : Store) (.str w) (ts.map .str) = some z) : z = decide (w ∈ ts) := by
  rw [in_strs'] at h; exact (Option.some.inj h).symm
abbrev fLet : Txt := [108, 101, 116, 116, 101, 114, 115]
abbrev fEar : Txt := [101, 97, 114, 108, 105, 101, 114]
theorem fld_at {st : Store} {i c : Nat} {ks : List Txt} {xs : List Val} {f : Txt} {v : Val} (hi : st[i]? = some (.ins c ks xs)) (h : look f ks xs = some v) : fldV st c f (.loc i) = some v := by
  simp only [fldV, hi, if_true, h]
theorem ins_at {st : Store} {i c : Nat} {ks : List Txt} {xs : List Val} {m : Txt} (hi : st[i]? = some (.ins c ks xs)) (h : decide (m ∉ ks) = true) : insOk st c m (.loc i) = true := by
  simp only [insOk, hi, decide_true, Bool.true_and, h]
section
variable {p : Prg} (hw : FAt p 0 d_is_word) (hg : FAt p 1 d_good_fields) (hn : FAt p 2 d_need_kind) (hl : FAt p 3 d_look_through)
variable (hm : FAt p 5 d_must) (hpo : FAt p 4 d_parts_of)
variable (hS : FAt p 7 d_Scope_look) (hSp : FAt p 8 d_Scope_look_plain) (hSn : FAt p 9 d_Scope_look_new) (hSm : FAt p 10 d_Scope_look_name) (hSc : FAt p 11 d_Scope_look_call)
variable {nS nM n1 n2 n3 n4 n5 n6 n7 : Txt} (gS : GAt p 0 (nS, .str smallT)) (gM : GAt p 2 (nM, .int 8)) (gZ : GAt p 3 (n1, .dct sizesK sizesX)) (gH : GAt p 4 (n2, .tup (headsT.map .str))) (gG : GAt p 5 (n3, .str signsT)) (gF : GAt p 6 (n4, .int 12)) (gP : GAt p 7 (n5, .int 12)) (gT : GAt p 8 (n6, .int (10 ^ 30))) (gR : GAt p 1 (n7, .str greatT))
include hw hg hn hl hm hSn gS gM in
theorem new_ok (K : Nat) (i : Nat) (ls : List Txt) (w : Txt) (r : List Val) (d : Vd) (st : Store) (y : Val) (hd : newN ls w r = some d) (hi : st[i]? = some (.ins 0 [fLet, fEar] [.tup (ls.map .str), y])) :
    RetX (SayE d st) (callN p (K + 24) 9 [.loc i, .tup (.str w :: r)] st) (SayQ d st) := by
  obtain ⟨a, r, rfl⟩ : ∃ x r', r = x :: r' := by
    cases r with
    | nil => cases hd
    | cons x r => exact ⟨_, _, rfl⟩
  simp only [newN] at hd
  have ⟨ba, hba, hd⟩ : ∃ ba, isWV smallT a = some ba ∧ ((ba = false ∧ d = .prog) ∨ (ba = true ∧ (if w = wFold then (match r with
    | _ :: b :: k :: _ => seqD (mD (isWV smallT b)) (if eqS a b = true then some .twice else kindD ls k)
    | _ => none) else some .ok) = some d)) := by
    rcases seq_ok hd with ⟨h1, h2⟩ | ⟨h1, h2⟩
    · obtain ⟨b, hb, e⟩ := mD_ok h1
      cases b with
      | true => exact ⟨true, hb, .inr ⟨rfl, h2⟩⟩
      | false => cases e
    · obtain ⟨b, hb, e⟩ := mD_ok h1
      cases b with
      | true => exact (h2 e).elim
      | false => exact ⟨false, hb, .inl ⟨rfl, e⟩⟩
  refine call_of hSn rfl ?_
  simp only [d_Scope_look_new, List.map_cons, List.map_nil, List.length_cons, List.length_nil, List.cons_append, List.nil_append, Nat.reduceAdd, Nat.reduceSub, Nat.zero_add, Nat.add_zero, Nat.sub_self, Nat.sub_zero, List.replicate]
  array_mem_dec
  refine (is_word_ok hw (K + 22) smallT a ba st hba).any.imp fun v s ⟨e1, e2⟩ => ?_
  subst e1 e2
  array_mem_dec
  refine must_x hm (fun z => ?_) (fun z => ?_)
  rotate_left
  · rcases hd with ⟨_, rfl⟩ | ⟨h, _⟩
    · exact ⟨nofun, rfl, rfl⟩
    · rw [z] at h; cases h
  subst z
  obtain ⟨ta, rfl, hta⟩ := isWV_true hba
  have hd := hd.resolve_left (fun q => nomatch q.1)
  have hd := hd.2
  array_mem_dec
  refine ⟨fun e => ?_, fun e => ?_⟩
  · have e : w = wFold := eq_of_beq e
    subst e
    simp only [if_true] at hd
    obtain ⟨x, b, k, r', rfl⟩ : ∃ x b k r', r = x :: b :: k :: r' := by
      match r, hd with
      | x :: b :: k :: r', _ => exact ⟨_, _, _, _, rfl⟩
    dsimp only at hd
    have ⟨bb, hbb, hd⟩ : ∃ bb, isWV smallT b = some bb ∧ ((bb = false ∧ d = .prog) ∨ (bb = true ∧ (if eqS (.str ta) b = true then some .twice else kindD ls k) = some d)) := by
      rcases seq_ok hd with ⟨h1, h2⟩ | ⟨h1, h2⟩
      · obtain ⟨b, hb, e⟩ := mD_ok h1
        cases b with
        | true => exact ⟨true, hb, .inr ⟨rfl, h2⟩⟩
        | false => cases e
      · obtain ⟨b, hb, e⟩ := mD_ok h1
        cases b with
        | true => exact (h2 e).elim
        | false => exact ⟨false, hb, .inl ⟨rfl, e⟩⟩
    array_mem_dec
    refine (is_word_ok hw (K + 22) smallT b bb _ hbb).any.imp fun v s ⟨e1, e2⟩ => ?_
    subst e1 e2
    array_mem_dec
    refine must_x hm (fun z => ?_) (fun z => ?_)
    rotate_left
    · rcases hd with ⟨_, rfl⟩ | ⟨h, _⟩
      · exact ⟨nofun, rfl, rfl⟩
      · rw [z] at h; cases h
    subst z
    obtain ⟨tb, rfl, htb⟩ := isWV_true hbb
    have hd := hd.resolve_left (fun q => nomatch q.1)
    have hd := hd.2
    array_mem_dec
    refine ⟨fun e => ?_, fun e => ?_⟩
    · have e : ta = tb := eq_of_beq e
      subst e
      simp only [eqS, beq_self_eq_true, if_true, Option.some.injEq] at hd
      subst hd
      array_mem_dec
      exact ⟨nofun, rfl, rfl⟩
    · have e : ¬ ta = tb := fun q => by subst q; simp [eqf] at e
      have e2 : eqS (.str ta) (.str tb) = false := by simp [eqS, e]
      simp only [e2, Bool.false_eq_true, if_false] at hd
      array_mem_dec
      refine ⟨_, fld_at hi rfl, ?_⟩
      array_mem_dec
      refine kind_x hw hg hn hl gS gM hd (fun z => ?_) (fun z => ?_)
      · array_mem_dec
        exact ⟨z, by trivial, rfl⟩
      · subst z
        exact ⟨nofun, rfl, rfl⟩
  · have e : ¬ w = wFold := fun q => by subst q; cases e
    simp only [e, if_false, Option.some.injEq] at hd
    subst hd
    array_mem_dec
    exact ⟨rfl, by trivial, rfl⟩
include hw hm hSm gS gH in
theorem name_ok (K : Nat) (i : Nat) (w : Txt) (r : List Val) (names : List Txt) (d : Vd) (st : Store) (hd : nameD names w r = some d) :
    RetX (SayE d st) (callN p (K + 24) 10 [.loc i, .tup (.str w :: r), .lst (names.map .str)] st) (SayQ d st) := by
  obtain ⟨a, r, rfl⟩ : ∃ x r', r = x :: r' := by
    cases r with
    | nil => cases hd
    | cons x r => exact ⟨_, _, rfl⟩
  simp only [nameD] at hd
  refine call_of hSm rfl ?_
  simp only [d_Scope_look_name, List.map_cons, List.map_nil, List.length_cons, List.length_nil, List.cons_append, List.nil_append, Nat.reduceAdd, Nat.reduceSub, Nat.zero_add, Nat.add_zero, Nat.sub_self, Nat.sub_zero, List.replicate]
  array_mem_dec
  cases hi : inS names a with
  | none => rw [hi] at hd; cases hd
  | some b =>
    refine ⟨!b, by show (inV' _ a (names.map .str)).map _ = _; rw [inS_ok hi]; rfl, ?_⟩
    cases b with
    | false =>
      rw [hi] at hd
      cases hd
      refine iteT ?_
      array_mem_dec
      exact ⟨nofun, rfl, rfl⟩
    | true =>
      rw [hi] at hd
      refine iteF ?_
      array_mem_dec
      refine ⟨fun e => ?_, fun e => ?_⟩
      · have e : w = wIs := eq_of_beq e
        subst e
        simp only [if_true] at hd
        obtain ⟨x, r', rfl⟩ : ∃ y r', r = y :: r' := by
          cases r with
          | nil => cases hd
          | cons x r => exact ⟨_, _, rfl⟩
        obtain ⟨b, hb, rfl⟩ := mD_ok hd
        array_mem_dec
        refine ⟨b, by show inV' _ x (headsT.map .str) = _; rw [inS_ok hb], ?_⟩
        array_mem_dec
        refine must_x hm (fun z => ?_) (fun z => ?_)
        · subst z
          array_mem_dec
          exact ⟨rfl, by trivial, rfl⟩
        · subst z
          exact ⟨nofun, rfl, rfl⟩
      · have n1 : ¬ w = wIs := fun q => by subst q; cases e
        simp only [n1, if_false] at hd
        array_mem_dec
        refine ⟨fun e => ?_, fun e => ?_⟩
        · have e : w = wHas := eq_of_beq e
          subst e
          simp only [if_true] at hd
          obtain ⟨x, r', rfl⟩ : ∃ y r', r = y :: r' := by
            cases r with
            | nil => cases hd
            | cons x r => exact ⟨_, _, rfl⟩
          obtain ⟨b, hb, rfl⟩ := mD_ok hd
          array_mem_dec
          refine (is_word_ok hw (K + 22) smallT x b st hb).any.imp fun v s ⟨e1, e2⟩ => ?_
          subst e1 e2
          array_mem_dec
          refine must_x hm (fun z => ?_) (fun z => ?_)
          · subst z
            array_mem_dec
            exact ⟨rfl, by trivial, rfl⟩
          · subst z
            exact ⟨nofun, rfl, rfl⟩
        · have n2 : ¬ w = wHas := fun q => by subst q; cases e
          simp only [n2, if_false, Option.some.injEq] at hd
          subst hd
          array_mem_dec
          exact ⟨rfl, by trivial, rfl⟩
include hw hg hn hl hm hSc gS gM in
theorem lcall_ok (K : Nat) (i e : Nat) (ls : List Txt) (eks : List Txt) (exs : List Val) (r : List Val) (d : Vd) (st : Store) (hd : callD eks exs ls r = some d) (hi : st[i]? = some (.ins 0 [fLet, fEar] [.tup (ls.map .str), .loc e])) (he : st[e]? = some (.dct eks exs)) :
    RetX (SayE d st) (callN p (K + 24) 11 [.loc i, .tup (.str wCall :: r)] st) (SayQ d st) := by
  obtain ⟨f, ks, ps, rfl⟩ : ∃ f ks ps, r = [f, ks, ps] := by
    match r, hd with
    | [f, ks, ps], _ => exact ⟨_, _, _, rfl⟩
  refine call_of hSc rfl ?_
  simp only [d_Scope_look_call, List.map_cons, List.map_nil, List.length_cons, List.length_nil, List.cons_append, List.nil_append, Nat.reduceAdd, Nat.reduceSub, Nat.zero_add, Nat.add_zero, Nat.sub_self, Nat.sub_zero, List.replicate]
  by_cases hall : ∃ tf xk xp, f = .str tf ∧ ks = .tup xk ∧ ps = .tup xp
  · obtain ⟨tf, xk, xp, rfl, rfl, rfl⟩ := hall
    simp only [callD] at hd
    array_mem_dec
    refine iteT' rfl ?_
    array_mem_dec
    refine iteT' rfl ?_
    array_mem_dec
    refine must_x hm (fun _ => ?_) (fun z => nomatch z)
    array_mem_dec
    refine ⟨_, fld_at hi rfl, ?_⟩
    array_mem_dec
    cases hlk : look tf eks exs with
    | none =>
      rw [hlk] at hd
      cases hd
      refine ⟨true, by simp only [cmpV, isinV, he, keyOf, Option.map, hlk]; rfl, ?_⟩
      refine iteT ?_
      array_mem_dec
      exact ⟨nofun, rfl, rfl⟩
    | some fv =>
      rw [hlk] at hd
      obtain ⟨q0, as, bs, q1, q2, rfl⟩ : ∃ q0 as bs q1 q2, fv = .tup [q0, .tup as, .tup bs, q1, q2] := by
        split at hd
        · rename_i h; cases h
        · rename_i h; cases h; exact ⟨_, _, _, _, _, rfl⟩
        · cases hd
      dsimp only at hd
      refine ⟨false, by simp only [cmpV, isinV, he, keyOf, Option.map, hlk]; rfl, ?_⟩
      refine iteF ?_
      array_mem_dec
      refine ⟨_, fld_at hi rfl, ?_⟩
      array_mem_dec
      refine ⟨_, by simp only [ixV, he, keyOf, Option.bind, hlk]; rfl, ?_⟩
      array_mem_dec
      refine ⟨fun e1 => ?_, fun e1 => ?_⟩
      · have e1 : xk.length = as.length := by have := eq_of_beq e1; omega
        array_mem_dec
        refine must_x hm (fun z => ?_) (fun z => ?_)
        rotate_left
        · have z : ¬ xp.length = bs.length := fun q => by rw [q] at z; simp [eqf] at z
          simp only [z, and_false, if_false, Option.some.injEq] at hd
          subst hd
          exact ⟨nofun, rfl, rfl⟩
        have z : xp.length = bs.length := by have := eq_of_beq z; omega
        simp only [e1, z, and_self, if_true] at hd
        array_mem_dec
        rw [ckN]
        refine for_suf (fun xs η s => (∃ y, η = [some (.loc i), some (.tup [.str wCall, .str tf, .tup xk, .tup xp]), some (.tup [q0, .tup as, .tup bs, q1, q2]), y]) ∧ kindsD ls xs = some d ∧ s = st) ⟨⟨_, rfl⟩, hd, rfl⟩ ?_ ?_
        · rintro x r η s ⟨⟨y, rfl⟩, hd, rfl⟩
          refine ⟨_, rfl, ?_⟩
          array_mem_dec
          refine ⟨_, fld_at hi rfl, ?_⟩
          array_mem_dec
          simp only [kindsD] at hd
          obtain ⟨d1, hd1⟩ : ∃ d1, kindD ls x = some d1 := by
            cases q : kindD ls x with
            | none => rw [q] at hd; cases hd
            | some d1 => exact ⟨d1, rfl⟩
          rw [hd1] at hd
          refine kind_x hw hg hn hl gS gM hd1 (fun z => ?_) (fun z => ?_)
          · subst z
            array_mem_dec
            exact ⟨⟨_, rfl⟩, hd, rfl⟩
          · subst z
            simp only [seqD, Option.some.injEq] at hd
            subst hd
            exact ⟨nofun, rfl, rfl⟩
        · rintro η s ⟨⟨y, rfl⟩, hd, rfl⟩
          array_mem_dec
          exact ⟨by simpa [kindsD] using hd.symm, by trivial, rfl⟩
      · have e1 : ¬ xk.length = as.length := fun q => by rw [q] at e1; simp [eqf] at e1
        simp only [e1, false_and, if_false, Option.some.injEq] at hd
        subst hd
        array_mem_dec
        refine must_x hm (fun z => nomatch z) (fun _ => ?_)
        exact ⟨nofun, rfl, rfl⟩
  · have ⟨nf, nk, np, hdp⟩ : nl f = true ∧ nl ks = true ∧ nl ps = true ∧ d = .prog := by
      unfold callD at hd
      dsimp only at hd
      split at hd
      · rename_i tf xk xp
        exact (hall ⟨_, _, _, rfl, rfl, rfl⟩).elim
      · split at hd
        · rename_i h
          simp only [Bool.and_eq_true] at h
          exact ⟨h.1, h.2.1, h.2.2, by simpa using hd.symm⟩
        · cases hd
    subst hdp
    array_mem_dec
    refine ⟨_, isi_str nf, ?_⟩
    array_mem_dec
    cases hf : isStr f with
    | false =>
      refine iteF ?_
      array_mem_dec
      refine must_x hm (fun z => nomatch z) (fun _ => ?_)
      exact ⟨nofun, rfl, rfl⟩
    | true =>
      refine iteT ?_
      array_mem_dec
      refine ⟨_, isi_tup nk, ?_⟩
      array_mem_dec
      cases hk : isTup ks with
      | false =>
        refine iteF ?_
        array_mem_dec
        refine must_x hm (fun z => nomatch z) (fun _ => ?_)
        exact ⟨nofun, rfl, rfl⟩
      | true =>
        refine iteT ?_
        array_mem_dec
        refine ⟨_, isi_tup np, ?_⟩
        array_mem_dec
        have hp : isTup ps = false := by
          cases q : isTup ps with
          | false => rfl
          | true =>
            exfalso
            refine hall ?_
            cases f <;> first | (cases hf; done) | skip
            cases ks <;> first | (cases hk; done) | skip
            cases ps <;> first | (cases q; done) | skip
            exact ⟨_, _, _, rfl, rfl, rfl⟩
        rw [hp]
        refine must_x hm (fun z => nomatch z) (fun _ => ?_)
        exact ⟨nofun, rfl, rfl⟩
end
end Mi
namespace Mi
local macro_rules | `(tactic| array_mem_dec) => `(tactic| repeat (first | (with_reducible apply t_seq) | (with_reducible apply t_skip) | (with_reducible apply t_asg) | (with_reducible apply t_ret) | (with_reducible apply t_expr) | (with_reducible apply t_put) | (with_reducible apply t_ite) | (with_reducible apply t_for) | (with_reducible apply t_asgT) | (with_reducible apply t_setf) | (with_reducible apply t_raise) | (with_reducible apply t_retN) | (with_reducible apply t_brk) | (with_reducible apply t_cont) | ((with_reducible apply v_var); rfl) | ((with_reducible apply b_var); rfl) | ((with_reducible apply i_var); rfl) | ((with_reducible apply v_glb); first | assumption | rfl) | (with_reducible apply v_fld) | (with_reducible apply v_meth) | (with_reducible apply b_fld) | (with_reducible apply b_meth) | (with_reducible apply i_fld) | (with_reducible apply i_meth) | (with_reducible apply v_lit) | (with_reducible apply v_ix) | (with_reducible apply v_bin) | (with_reducible apply v_cmp) | (with_reducible apply v_call) | (with_reducible apply v_tup) | (with_reducible apply v_lst) | (with_reducible apply v_new) | (with_reducible apply v_fn) | (with_reducible apply v_isi) | (with_reducible apply v_mt) | (with_reducible apply v_and) | (with_reducible apply v_or) | (with_reducible apply v_not) | (with_reducible apply v_ite) | (with_reducible apply v_neg) | (with_reducible apply v_chain) | (with_reducible apply v_isN) | (with_reducible apply v_isB) | (with_reducible apply v_lc) | (with_reducible apply a_cons) | (with_reducible apply a_nil) | (with_reducible apply b_cmp) | (with_reducible apply b_and) | (with_reducible apply b_or) | (with_reducible apply b_not) | (with_reducible apply b_call) | (with_reducible apply b_isi) | (with_reducible apply b_lit) | (with_reducible apply b_isN) | (with_reducible apply b_isB) | (with_reducible apply b_chain) | (with_reducible apply b_mt) | (with_reducible apply b_fn) | (with_reducible apply i_rng) | (with_reducible apply i_ix) | (with_reducible apply i_fn) | (with_reducible apply i_call) | (with_reducible apply i_bin) | (with_reducible apply i_lst) | (with_reducible apply i_sortK) | (with_reducible apply i_tup) | (with_reducible apply i_lc) | (with_reducible apply v_dcpy) | (with_reducible apply v_lnew) | (with_reducible apply v_dget) | (with_reducible apply v_kin) | (with_reducible apply v_kix) | (with_reducible apply b_kin) | (with_reducible apply ie_t0) | (with_reducible apply ie_t1) | (with_reducible apply ie_t2) | (with_reducible apply ie_t3) | (with_reducible apply ie_t4) | (with_reducible apply ie_t5) | (with_reducible apply ie_t6) | refine ⟨Nat.le_of_ble_eq_true rfl, ?_⟩ | refine ⟨_, rfl, ?_⟩))
/-! walks: parts_of, Scope.look, need_pairs, need_function, need_program -/
theorem lc_mp {tg : Tg} {η : Env} {st : Store} {T : Env → Store → Res Bool} {E : Env → Store → Res Val} (f : Val → Val) {R : List Val → Store → Prop} (xs : List Val)
    (h : ∀ x ∈ xs, ∃ η1, asgTg tg x η = some η1 ∧ (∀ s, T η1 s = .ok true s) ∧ Ret (E η1 st) fun v s => v = f x ∧ s = st) (hl : xs.length ≤ 1000000) (r : R (xs.map f) st) : Ret (lcLoop (fun _ => true) tg η T E xs [] st) R := by
  refine lc_pure (fun _ => true) f xs [] (fun x hx => ?_) (by simp [show PySem.sizeLine = 16777216 from rfl]; omega) (by rw [List.filter_eq_self.mpr (fun _ _ => rfl)]; simpa using r)
  obtain ⟨η1, e, hT, hE⟩ := h x hx
  exact ⟨η1, e, by rw [hT]; exact ret_ok ⟨rfl, rfl⟩, fun _ => hE⟩
theorem shPs_ok : ∀ {fs : List Val} {ps : List (Val × List Txt)}, shPs fs = some ps → (∀ f ∈ fs, ∃ a x, f = .tup [a, x]) ∧ fs.map (fun v => match v with | .tup [_, x] => .tup [x, .tup []] | v => v) = ps.map pV
  | [], ps, h => by cases h; exact ⟨by simp, rfl⟩
  | v :: r, ps, h => by
    unfold shPs at h
    split at h
    · rename_i q; cases q
    · rename_i a x r' q
      cases q
      cases hr : shPs r with
      | none => rw [hr] at h; cases h
      | some ps' =>
        rw [hr] at h
        cases h
        obtain ⟨h1, h2⟩ := shPs_ok hr
        refine ⟨fun f hf => ?_, by rw [List.map_cons, h2]; rfl⟩
        rcases List.mem_cons.mp hf with rfl | hf
        · exact ⟨_, _, rfl⟩
        · exact h1 f hf
    · cases h
theorem lenOk_ok {xs : List Val} {ps : List (Val × List Txt)} (h : lenOk xs = some ps) : xs.length ≤ 1000000 ∧ xs.map (fun x => Val.tup [x, .tup []]) = ps.map pV := by
  unfold lenOk at h
  split at h
  · rename_i q
    cases h
    exact ⟨q, by rw [List.map_map]; rfl⟩
  · cases h
theorem lenOk_small {xs : List Val} {ps : List (Val × List Txt)} (h : lenOk xs = some ps) : ∀ q ∈ ps, q.2.length ≤ 2 := by
  unfold lenOk at h
  split at h
  · cases h
    intro q hq
    obtain ⟨a, _, rfl⟩ := List.mem_map.mp hq
    exact Nat.zero_le _
  · cases h
theorem shPs_small : ∀ {fs : List Val} {ps : List (Val × List Txt)}, shPs fs = some ps → ∀ q ∈ ps, q.2.length ≤ 2
  | [], ps, h => by cases h; simp
  | f :: fs, ps, h => by
    unfold shPs at h
    split at h
    · rename_i q; cases q
    · rename_i a x r' q
      cases q
      cases hr : shPs fs with
      | none => rw [hr] at h; cases h
      | some ps' =>
        rw [hr] at h; cases h
        intro q hq
        rcases List.mem_cons.mp hq with rfl | hq
        · exact Nat.zero_le _
        · exact shPs_small hr q hq
    · cases h
theorem parts_small {w : Txt} {r : List Val} {ps : List (Val × List Txt)} (h : partsOf w r = some ps) : ∀ q ∈ ps, q.2.length ≤ 2 := by
  unfold partsOf at h
  split at h
  · cases h; simp
  split at h
  · split at h
    · exact lenOk_small h
    · cases h
  split at h
  · split at h
    · split at h
      · exact shPs_small h
      · cases h
    · cases h
  split at h
  · split at h
    · exact lenOk_small h
    · cases h
  split at h
  · split at h
    · cases h; simp
    · cases h
  split at h
  · split at h
    · cases h; simp
    · cases h
  split at h
  · split at h
    · cases h; simp
    · cases h
  split at h
  · split at h
    · cases h; simp
    · cases h
  exact lenOk_small h
theorem add_lst {st : Store} {xs ys : List Val} (h : xs.length + ys.length ≤ 1000000) : binV st .add (.lst xs) (.lst ys) = some (.lst (xs ++ ys)) := by
  simp only [binV, addV, asL, Option.bind]; rw [if_pos (Nat.le_trans h (by decide))]
def Gw (st s : Store) : Prop := ∃ os, s = st ++ os
theorem Gw.refl {st : Store} : Gw st st := ⟨[], by simp⟩
theorem Gw.trans {a b c : Store} (h : Gw a b) (k : Gw b c) : Gw a c := by
  obtain ⟨x, rfl⟩ := h
  obtain ⟨y, rfl⟩ := k
  exact ⟨x ++ y, by simp⟩
theorem Gw.at {a b : Store} (h : Gw a b) {n : Nat} {o : Ob} (k : a[n]? = some o) : b[n]? = some o := by
  obtain ⟨x, rfl⟩ := h
  rw [List.getElem?_append_left (List.getElem?_eq_some_iff.mp k).1]; exact k
theorem Gw.push {a : Store} {o : Ob} : Gw a (a ++ [o]) := ⟨[o], rfl⟩
theorem Gw.set {a b : Store} {o : Ob} (h : Gw a b) : Gw a (b.set a.length o) := by
  obtain ⟨x, rfl⟩ := h
  rw [List.set_append_right _ _ (Nat.le_refl _)]
  exact ⟨_, rfl⟩
/-- letters, names told in pairs -/
def pairsD (sg : Txt) : List Val → List Txt → Option (Vd × List Txt)
  | [], acc => some (.ok, acc)
  | .tup [a, _] :: r, acc => (match isWV sg a with
    | none => none
    | some false => some (.prog, acc)
    | some true => (match a with
      | .str t => if t ∈ acc then some (.twice, acc) else pairsD sg r (acc ++ [t])
      | _ => none))
  | .tup _ :: _, acc => some (.prog, acc)
  | .loc _ :: _, _ => none
  | _ :: _, acc => some (.prog, acc)
def pairsT (sg : Txt) : Val → Option (Vd × List Txt)
  | .tup ps => if ps.length ≤ 500 then pairsD sg ps [] else none
  | .loc _ => none
  | _ => some (.prog, [])
def bndsD (ls : List Txt) : List Val → Option Vd
  | [] => some .ok
  | .tup [_, k] :: r => seqD (kindD ls k) (bndsD ls r)
  | _ => none
def headD (eks : List Txt) (exs : List Val) (nm : Val) : Option Vd := match isWV smallT nm with
  | none => none
  | some false => some .prog
  | some true => (match nm with
    | .str t => if (look t sizesK sizesX).isSome then some .prog else if (look t eks exs).isSome then some .twice else some .ok
    | _ => none)
def tailD (eks : List Txt) (exs : List Val) (ls : List Txt) (pr rs bd : Val) : Option Vd := match pairsT smallT pr with
  | none => none
  | some (.ok, ns) => (match pr with
    | .tup ps => seqD (bndsD ls ps) (seqD (kindD ls rs) (lookP eks exs ls 14 bd ns 1))
    | _ => none)
  | some (d, _) => some d
def funD (eks : List Txt) (exs : List Val) : Val → Option Vd
  | .tup [nm, lt, pr, rs, bd] => seqD (headD eks exs nm) (match pairsT greatT lt with
    | none => none
    | some (.ok, ls) => (match lt with
      | .tup bs => seqD (bndsD [] bs) (tailD eks exs ls pr rs bd)
      | _ => none)
    | some (d, _) => some d)
  | .loc _ => none
  | _ => some .prog
def progD : List Val → List Txt → List Val → Option (Vd × List Txt × List Val)
  | [], eks, exs => some (.ok, eks, exs)
  | f :: r, eks, exs => (match funD eks exs f with
    | none => none
    | some .ok => (match f with
      | .tup (.str t :: _) => progD r (putD t f eks exs).1 (putD t f eks exs).2
      | _ => none)
    | some d => some (d, eks, exs))
def progT (fs : List Val) : Option (Vd × List Txt × List Val) := if fs.length ≤ 12 then progD fs [] [] else some (.prog, [], [])
section
variable {p : Prg} (hw : FAt p 0 d_is_word) (hg : FAt p 1 d_good_fields) (hn : FAt p 2 d_need_kind) (hl : FAt p 3 d_look_through)
variable (hm : FAt p 5 d_must) (hpo : FAt p 4 d_parts_of)
variable (hS : FAt p 7 d_Scope_look) (hSp : FAt p 8 d_Scope_look_plain) (hSn : FAt p 9 d_Scope_look_new) (hSm : FAt p 10 d_Scope_look_name) (hSc : FAt p 11 d_Scope_look_call)
variable {nS nM n1 n2 n3 n4 n5 n6 n7 : Txt} (gS : GAt p 0 (nS, .str smallT)) (gM : GAt p 2 (nM, .int 8)) (gZ : GAt p 3 (n1, .dct sizesK sizesX)) (gH : GAt p 4 (n2, .tup (headsT.map .str))) (gG : GAt p 5 (n3, .str signsT)) (gF : GAt p 6 (n4, .int 12)) (gP : GAt p 7 (n5, .int 12)) (gT : GAt p 8 (n6, .int (10 ^ 30))) (gR : GAt p 1 (n7, .str greatT))
include hpo in
theorem parts_ok (K : Nat) (w : Txt) (r : List Val) (ps : List (Val × List Txt)) (st : Store) (h : partsOf w r = some ps) : Ret (callN p (K + 1) 4 [.tup (.str w :: r)] st) fun v s => v = .lst (ps.map pV) ∧ s = st := by
  refine call_of hpo rfl ?_
  simp only [d_parts_of, List.map_cons, List.map_nil, List.length_cons, List.length_nil, List.cons_append, List.nil_append, Nat.reduceAdd, Nat.reduceSub, Nat.zero_add, Nat.add_zero, Nat.sub_self, Nat.sub_zero, List.replicate]
  unfold partsOf at h
  array_mem_dec
  refine ⟨fun e => ?_, fun e => ?_⟩
  · have e : w ∈ leafW := of_decide_eq_true ((lit_in (ts := leafW) rfl).symm.trans e)
    rw [if_pos e] at h
    cases h
    array_mem_dec
    exact ⟨rfl, rfl⟩
  have e : w ∉ leafW := of_decide_eq_false ((lit_in (ts := leafW) rfl).symm.trans e)
  rw [if_neg e] at h
  array_mem_dec
  refine ⟨fun e => ?_, fun e => ?_⟩
  · have e : w = wRow := eq_of_beq e
    rw [if_pos e] at h
    obtain ⟨xs, rfl⟩ : ∃ xs, r = [.tup xs] := by
      split at h
      · exact ⟨_, rfl⟩
      · cases h
    obtain ⟨h1, h2⟩ := lenOk_ok h
    array_mem_dec
    rw [ckN]
    refine lc_mp (fun x => .tup [x, .tup []]) _ (fun x hx => ⟨_, rfl, fun _ => rfl, ?_⟩) h1 ?_
    · array_mem_dec
      exact ⟨rfl, rfl⟩
    · exact ⟨by rw [← h2], rfl⟩
  have n1 : ¬ w = wRow := fun q => by subst q; cases e
  rw [if_neg n1] at h
  array_mem_dec
  refine ⟨fun e => ?_, fun e => ?_⟩
  · have e : w = wShape := eq_of_beq e
    rw [if_pos e] at h
    obtain ⟨xs, rfl⟩ : ∃ xs, r = [.tup xs] := by
      split at h
      · exact ⟨_, rfl⟩
      · cases h
    dsimp only at h
    split at h
    · rename_i hlen
      obtain ⟨h1, h2⟩ := shPs_ok h
      array_mem_dec
      rw [ckN]
      refine lc_mp (fun v => match v with | .tup [_, x] => .tup [x, .tup []] | v => v) _ (fun x hx => ?_) hlen ?_
      rotate_left
      · exact ⟨by rw [← h2], rfl⟩
      · obtain ⟨a, y, rfl⟩ := h1 x hx
        refine ⟨_, rfl, fun _ => rfl, ?_⟩
        array_mem_dec
        exact ⟨rfl, rfl⟩
    · cases h
  have n2 : ¬ w = wShape := fun q => by subst q; cases e
  rw [if_neg n2] at h
  array_mem_dec
  refine ⟨fun e => ?_, fun e => ?_⟩
  · have e : w = wCall := eq_of_beq e
    rw [if_pos e] at h
    obtain ⟨a, b, xs, rfl⟩ : ∃ a b xs, r = [a, b, .tup xs] := by
      split at h
      · exact ⟨_, _, _, rfl⟩
      · cases h
    obtain ⟨h1, h2⟩ := lenOk_ok h
    array_mem_dec
    rw [ckN]
    refine lc_mp (fun x => .tup [x, .tup []]) _ (fun x hx => ⟨_, rfl, fun _ => rfl, ?_⟩) h1 ?_
    · array_mem_dec
      exact ⟨rfl, rfl⟩
    · exact ⟨by rw [← h2], rfl⟩
  have n3 : ¬ w = wCall := fun q => by subst q; cases e
  rw [if_neg n3] at h
  refine t_skip ?_
  refine t_cut (fun η s => η = [some (.tup (.str w :: r)), some (.str w), none, none] ∧ s = st ∧ ¬ (w = wGet ∨ w = wSize)) ?_ ?_
  · array_mem_dec
    have fin : w = wGet ∨ w = wSize → ∃ x r', r = x :: r' ∧ ps = [(x, [])] := fun e => by
      rw [if_pos e] at h
      split at h
      · cases h; exact ⟨_, _, rfl, rfl⟩
      · cases h
    refine ⟨fun e1 => ?_, fun e1 => ?_⟩
    · have e1 : ¬ w = wGet := fun q => by subst q; cases e1
      array_mem_dec
      refine ⟨fun e2 => ?_, fun e2 => ?_⟩
      · have e2 : w = wSize := eq_of_beq e2
        obtain ⟨x, r', rfl, rfl⟩ := fin (.inr e2)
        array_mem_dec
        exact ⟨rfl, rfl⟩
      · have e2 : ¬ w = wSize := fun q => by subst q; cases e2
        array_mem_dec
        exact ⟨rfl, rfl, by simp [e1, e2]⟩
    · have e1 : w = wGet := eq_of_beq e1
      obtain ⟨x, r', rfl, rfl⟩ := fin (.inl e1)
      refine iteT ?_
      array_mem_dec
      exact ⟨rfl, rfl⟩
  rintro η s ⟨rfl, rfl, n4⟩
  rw [if_neg n4] at h
  refine t_cut (fun η s' => η = [some (.tup (.str w :: r)), some (.str w), none, none] ∧ s' = s ∧ ¬ (w = wLet ∨ w = wEach)) ?_ ?_
  · array_mem_dec
    have fin : w = wLet ∨ w = wEach → ∃ a x y, r = [.str a, x, y] ∧ ps = [(x, []), (y, [a])] := fun e => by
      rw [if_pos e] at h
      split at h
      · cases h; exact ⟨_, _, _, rfl, rfl⟩
      · cases h
    refine ⟨fun e1 => ?_, fun e1 => ?_⟩
    · have e1 : ¬ w = wLet := fun q => by subst q; cases e1
      array_mem_dec
      refine ⟨fun e2 => ?_, fun e2 => ?_⟩
      · have e2 : w = wEach := eq_of_beq e2
        obtain ⟨a, x, y, rfl, rfl⟩ := fin (.inr e2)
        array_mem_dec
        exact ⟨rfl, rfl⟩
      · have e2 : ¬ w = wEach := fun q => by subst q; cases e2
        array_mem_dec
        exact ⟨rfl, rfl, by simp [e1, e2]⟩
    · have e1 : w = wLet := eq_of_beq e1
      obtain ⟨a, x, y, rfl, rfl⟩ := fin (.inl e1)
      refine iteT ?_
      array_mem_dec
      exact ⟨rfl, rfl⟩
  rintro η s' ⟨rfl, rfl, n5⟩
  rw [if_neg n5] at h
  array_mem_dec
  refine ⟨fun e => ?_, fun e => ?_⟩
  · have e : w = wFold := eq_of_beq e
    rw [if_pos e] at h
    obtain ⟨a, x, b, k, y, z, rfl⟩ : ∃ a x b k y z, r = [.str a, x, .str b, k, y, z] := by
      split at h
      · exact ⟨_, _, _, _, _, _, rfl⟩
      · cases h
    cases h
    array_mem_dec
    exact ⟨rfl, rfl⟩
  have n6 : ¬ w = wFold := fun q => by subst q; cases e
  rw [if_neg n6] at h
  refine t_skip ?_
  refine t_cut (fun η s => η = [some (.tup (.str w :: r)), some (.str w), none, none] ∧ s = s' ∧ ¬ (w = wIs ∨ w = wHas)) ?_ ?_
  · array_mem_dec
    have fin : w = wIs ∨ w = wHas → ∃ a b x y, r = [a, b, x, y] ∧ ps = [(x, []), (y, [])] := fun e => by
      rw [if_pos e] at h
      split at h
      · cases h; exact ⟨_, _, _, _, rfl, rfl⟩
      · cases h
    refine ⟨fun e1 => ?_, fun e1 => ?_⟩
    · have e1 : ¬ w = wIs := fun q => by subst q; cases e1
      array_mem_dec
      refine ⟨fun e2 => ?_, fun e2 => ?_⟩
      · have e2 : w = wHas := eq_of_beq e2
        obtain ⟨a, b, x, y, rfl, rfl⟩ := fin (.inr e2)
        array_mem_dec
        exact ⟨rfl, rfl⟩
      · have e2 : ¬ w = wHas := fun q => by subst q; cases e2
        array_mem_dec
        exact ⟨rfl, rfl, by simp [e1, e2]⟩
    · have e1 : w = wIs := eq_of_beq e1
      obtain ⟨a, b, x, y, rfl, rfl⟩ := fin (.inl e1)
      refine iteT ?_
      array_mem_dec
      exact ⟨rfl, rfl⟩
  rintro η s ⟨rfl, rfl, n7⟩
  rw [if_neg n7] at h
  obtain ⟨h1, h2⟩ := lenOk_ok h
  array_mem_dec
  refine i_sl (v_sl (v_var rfl (o_int (o_nil ⟨_, cut_one, _, rfl, ?_⟩))))
  array_mem_dec
  rw [ckN]
  refine lc_mp (fun x => .tup [x, .tup []]) _ (fun x hx => ⟨_, rfl, fun _ => rfl, ?_⟩) h1 ?_
  · array_mem_dec
    exact ⟨rfl, rfl⟩
  · exact ⟨by rw [← h2], rfl⟩
include hw hg hn hl hm hpo hS hSp hSn hSm hSc gS gM gZ gH gG gP gT in
theorem scope_ok (i je : Nat) (ls : List Txt) (eks : List Txt) (exs : List Val) : ∀ (n K : Nat) (v : Val) (names : List Txt) (dp : Int) (d : Vd) (st : Store), st[i]? = some (.ins 0 [fLet, fEar] [.tup (ls.map .str), .loc je]) → st[je]? = some (.dct eks exs) → names.length + 2 * n ≤ 100000 → lookP eks exs ls n v names dp = some d →
    RetX (SayE d st) (callN p (K + n + 26) 7 [.loc i, v, .lst (names.map .str), .int dp] st) (SayQ d st) := by
  intro n
  induction n with
  | zero => intro K v names dp d st _ _ _ hd; cases hd
  | succ n ih =>
  intro K v names dp d st hi he hnm hd
  refine call_of hS rfl ?_
  simp only [d_Scope_look, List.map_cons, List.map_nil, List.length_cons, List.length_nil, List.cons_append, List.nil_append, Nat.reduceAdd, Nat.reduceSub, Nat.zero_add, Nat.add_zero, Nat.sub_self, Nat.sub_zero, List.replicate]
  by_cases hv : ∃ xs, v = .tup xs
  rotate_left
  · have ⟨nv, hdp⟩ : nl v = true ∧ d = .prog := by
      cases v <;> first | exact (hv ⟨_, rfl⟩).elim | (cases hd; done) | (simp [lookP] at hd; exact ⟨rfl, hd.symm⟩)
    subst hdp
    have hs : isTup v = false := by cases v <;> first | rfl | exact (hv ⟨_, rfl⟩).elim
    array_mem_dec
    refine ⟨_, isi_tup nv, ?_⟩
    rw [hs]
    array_mem_dec
    refine iteF' rfl ?_
    array_mem_dec
    refine must_x hm (fun z => nomatch z) (fun _ => ?_)
    exact ⟨nofun, rfl, rfl⟩
  obtain ⟨xs, rfl⟩ := hv
  cases xs with
  | nil =>
    simp [lookP] at hd
    subst hd
    array_mem_dec
    refine iteT' rfl ?_
    array_mem_dec
    refine iteF' rfl ?_
    array_mem_dec
    refine must_x hm (fun z => nomatch z) (fun _ => ?_)
    exact ⟨nofun, rfl, rfl⟩
  | cons x r =>
  array_mem_dec
  refine iteT' rfl ?_
  array_mem_dec
  refine iteT' (by simp) ?_
  array_mem_dec
  by_cases hx : ∃ w, x = .str w
  rotate_left
  · have ⟨nx, hdp⟩ : nl x = true ∧ d = .prog := by
      cases x <;> first | exact (hx ⟨_, rfl⟩).elim | (simp [lookP] at hd; done) | (simp [lookP] at hd; exact ⟨rfl, hd.symm⟩)
    subst hdp
    have hs : isStr x = false := by cases x <;> first | rfl | exact (hx ⟨_, rfl⟩).elim
    refine must_x hm (fun _ => ?_) (fun _ => ⟨nofun, rfl, rfl⟩)
    array_mem_dec
    refine ⟨_, isi_str nx, ?_⟩
    rw [hs]
    array_mem_dec
    refine iteF' rfl ?_
    array_mem_dec
    refine must_x hm (fun z => nomatch z) (fun _ => ?_)
    exact ⟨nofun, rfl, rfl⟩
  obtain ⟨w, rfl⟩ := hx
  simp only [lookP] at hd
  refine must_x hm (fun z => ?_) (fun z => ?_)
  rotate_left
  · have z := of_decide_eq_false z
    have z : 12 < dp := by omega
    simp only [z, if_true, Option.some.injEq] at hd
    subst hd
    exact ⟨nofun, rfl, rfl⟩
  have z := of_decide_eq_true z
  have z : ¬ 12 < dp := by omega
  simp only [z, if_false] at hd
  have szk : ∀ (ks : List Txt) (ns : List Nat), look w ks (ns.map fun (n : Nat) => Val.int n) = (szL w ks ns).map fun (n : Nat) => Val.int n := by
    intro ks
    induction ks with
    | nil => intro ns; rfl
    | cons k ks ihk =>
      intro ns
      cases ns with
      | nil => rfl
      | cons n ns =>
        simp only [List.map_cons, look, szL]
        split
        · rfl
        · exact ihk ns
  have szx : look w sizesK sizesX = (szOf w).map fun (n : Nat) => Val.int n := szk sizesK sizesN
  array_mem_dec
  refine iteT' rfl ?_
  array_mem_dec
  refine ⟨_, _, _, _, gZ, rfl, ?_⟩
  rw [szx]
  cases hz : szOf w with
  | none =>
    rw [hz] at hd
    cases hd
    array_mem_dec
    refine must_x hm (fun z => nomatch z) (fun _ => ?_)
    exact ⟨nofun, rfl, rfl⟩
  | some k =>
  rw [hz] at hd
  dsimp only at hd
  array_mem_dec
  refine must_x hm (fun _ => ?_) (fun z => nomatch z)
  array_mem_dec
  refine ⟨_, _, _, _, _, gZ, rfl, by rw [szx, hz]; rfl, ?_⟩
  array_mem_dec
  refine must_x hm (fun z => ?_) (fun z => ?_)
  rotate_left
  · have z : ¬ r.length + 1 = k := fun q => by subst q; simp [eqf] at z
    simp only [z, if_false, Option.some.injEq] at hd
    subst hd
    exact ⟨nofun, rfl, rfl⟩
  have z : r.length + 1 = k := by have := eq_of_beq z; simp at this; omega
  simp only [z, if_true] at hd
  -- what the part tells itself; then the parts within
  refine t_cut (fun η s => chkD eks exs ls names w r = some .ok ∧ η = [some (.loc i), some (.tup (.str w :: r)), some (.lst (names.map .str)), some (.int dp), none, none] ∧ s = st) ?_ ?_
  · have ⟨d1, hd1, g1, g2⟩ : ∃ d1, chkD eks exs ls names w r = some d1 ∧ (d1 = .ok → chkD eks exs ls names w r = some .ok) ∧ (d1 ≠ .ok → d = d1) := by
      rcases seq_ok hd with ⟨h1, h2⟩ | ⟨h1, h2⟩
      · exact ⟨.ok, h1, fun _ => h1, fun q => (q rfl).elim⟩
      · exact ⟨d, h1, fun q => (h2 q).elim, fun _ => rfl⟩
    have fin : ∀ {e : Exn} {s : Store}, SayE d1 st e s → SayE d st e s := fun {e s} ⟨q1, q2, q3⟩ => by
      have := g2 q1; subst this; exact ⟨q1, q2, q3⟩
    unfold chkD at hd1
    array_mem_dec
    refine ⟨fun e => ?_, fun e => ?_⟩
    · have e : w ∈ plainW := of_decide_eq_true ((lit_in (ts := plainW) rfl).symm.trans e)
      rw [if_pos e] at hd1
      array_mem_dec
      refine ⟨ins_at hi (by decide), ?_⟩
      array_mem_dec
      refine (plain_ok hw hg hn hl hm hSp gS gM gG gT (K + n + 2) i ls w r d1 st (.loc je) e hd1 hi).impX (fun v s ⟨q1, q2, q3⟩ => ?_) (fun _ _ q => fin q)
      subst q3
      array_mem_dec
      exact ⟨g1 q1, rfl, rfl⟩
    have e : w ∉ plainW := of_decide_eq_false ((lit_in (ts := plainW) rfl).symm.trans e)
    rw [if_neg e] at hd1
    array_mem_dec
    refine ⟨fun e => ?_, fun e => ?_⟩
    · have e : w ∈ newW := of_decide_eq_true ((lit_in (ts := newW) rfl).symm.trans e)
      rw [if_pos e] at hd1
      array_mem_dec
      refine ⟨ins_at hi (by decide), ?_⟩
      array_mem_dec
      refine (new_ok hw hg hn hl hm hSn gS gM (K + n + 2) i ls w r d1 st _ hd1 hi).impX (fun v s ⟨q1, q2, q3⟩ => ?_) (fun _ _ q => fin q)
      subst q3
      array_mem_dec
      exact ⟨g1 q1, rfl, rfl⟩
    have e : w ∉ newW := of_decide_eq_false ((lit_in (ts := newW) rfl).symm.trans e)
    rw [if_neg e] at hd1
    array_mem_dec
    refine ⟨fun e => ?_, fun e => ?_⟩
    · have e : w = wCall := eq_of_beq e
      rw [if_pos e] at hd1
      subst e
      array_mem_dec
      refine ⟨ins_at hi (by decide), ?_⟩
      array_mem_dec
      refine (lcall_ok hw hg hn hl hm hSc gS gM (K + n + 2) i _ ls eks exs r d1 st hd1 hi he).impX (fun v s ⟨q1, q2, q3⟩ => ?_) (fun _ _ q => fin q)
      subst q3
      array_mem_dec
      exact ⟨g1 q1, rfl, rfl⟩
    have n3 : ¬ w = wCall := fun q => by subst q; cases e
    rw [if_neg n3] at hd1
    array_mem_dec
    refine ⟨fun e => ?_, fun e => ?_⟩
    · have e : w ∈ nameW := of_decide_eq_true ((lit_in (ts := nameW) rfl).symm.trans e)
      rw [if_pos e] at hd1
      array_mem_dec
      refine ⟨ins_at hi (by decide), ?_⟩
      array_mem_dec
      refine (name_ok hw hm hSm gS gH (K + n + 2) i w r names d1 st hd1).impX (fun v s ⟨q1, q2, q3⟩ => ?_) (fun _ _ q => fin q)
      subst q3
      array_mem_dec
      exact ⟨g1 q1, rfl, rfl⟩
    have e : w ∉ nameW := of_decide_eq_false ((lit_in (ts := nameW) rfl).symm.trans e)
    rw [if_neg e] at hd1
    cases hd1
    array_mem_dec
    exact ⟨g1 rfl, rfl, rfl⟩
  rintro η s ⟨hc, rfl, rfl⟩
  rw [hc] at hd
  simp only [seqD] at hd
  cases hp : partsOf w r with
  | none => rw [hp] at hd; cases hd
  | some ps =>
  rw [hp] at hd
  dsimp only at hd
  array_mem_dec
  refine (parts_ok hpo (K + n + 25) w r ps s hp).any.imp fun v s' ⟨e1, e2⟩ => ?_
  subst e1 e2
  refine ⟨_, rfl, ?_⟩
  rw [ckN]
  refine for_suf (fun xs η s => (∃ ps', xs = ps'.map pV ∧ lookPs (fun one nw => lookP eks exs ls n one (names ++ nw) (dp + 1)) ps' = some d ∧ ∀ q ∈ ps', q.2.length ≤ 2) ∧ (∃ y z, η = [some (.loc i), some (.tup (.str w :: r)), some (.lst (names.map .str)), some (.int dp), y, z]) ∧ s = s') ⟨⟨ps, rfl, hd, ?_⟩, ⟨_, _, rfl⟩, rfl⟩ ?_ ?_
  · exact parts_small hp
  · rintro x rr η s1 ⟨⟨ps', hps, hd', hsm⟩, ⟨y, z, rfl⟩, rfl⟩
    cases ps' with
    | nil => cases hps
    | cons q ps' =>
    cases hps
    refine ⟨_, rfl, ?_⟩
    simp only [lookPs] at hd'
    have hq2 := hsm q (by simp)
    array_mem_dec
    refine ⟨ins_at hi (by decide), ?_⟩
    array_mem_dec
    refine ⟨_, add_lst (by simp; omega), ?_⟩
    array_mem_dec
    rw [← List.map_append]
    rcases seq_ok hd' with ⟨h1, h2⟩ | ⟨h1, h2⟩
    · refine (ih K q.1 (names ++ q.2) (dp + 1) .ok s1 hi he (by simp; omega) h1).impX (fun v s ⟨_, _, q3⟩ => ?_) (fun x s ⟨q1, _⟩ => (q1 rfl).elim)
      subst q3
      array_mem_dec
      exact ⟨⟨ps', rfl, h2, fun q hq => hsm q (by simp [hq])⟩, ⟨_, _, rfl⟩, rfl⟩
    · refine (ih K q.1 (names ++ q.2) (dp + 1) d s1 hi he (by simp; omega) h1).impX (fun v s ⟨q1, _⟩ => (h2 q1).elim) (fun x s q => q)
  · rintro η s1 ⟨⟨ps', hps, hd', _⟩, ⟨y, z, rfl⟩, rfl⟩
    cases ps' with
    | cons q ps' => cases hps
    | nil =>
      cases hd'
      array_mem_dec
      exact ⟨rfl, by trivial, rfl⟩
end
end Mi
namespace Mi
local macro_rules | `(tactic| array_mem_dec) => `(tactic| repeat (first | (with_reducible apply t_seq) | (with_reducible apply t_skip) | (with_reducible apply t_asg) | (with_reducible apply t_ret) | (with_reducible apply t_expr) | (with_reducible apply t_put) | (with_reducible apply t_ite) | (with_reducible apply t_for) | (with_reducible apply t_asgT) | (with_reducible apply t_setf) | (with_reducible apply t_raise) | (with_reducible apply t_retN) | (with_reducible apply t_brk) | (with_reducible apply t_cont) | ((with_reducible apply v_var); rfl) | ((with_reducible apply b_var); rfl) | ((with_reducible apply i_var); rfl) | ((with_reducible apply v_glb); first | assumption | rfl) | (with_reducible apply v_fld) | (with_reducible apply v_meth) | (with_reducible apply b_fld) | (with_reducible apply b_meth) | (with_reducible apply i_fld) | (with_reducible apply i_meth) | (with_reducible apply v_lit) | (with_reducible apply v_ix) | (with_reducible apply v_bin) | (with_reducible apply v_cmp) | (with_reducible apply v_call) | (with_reducible apply v_tup) | (with_reducible apply v_lst) | (with_reducible apply v_new) | (with_reducible apply v_fn) | (with_reducible apply v_isi) | (with_reducible apply v_mt) | (with_reducible apply v_and) | (with_reducible apply v_or) | (with_reducible apply v_not) | (with_reducible apply v_ite) | (with_reducible apply v_neg) | (with_reducible apply v_chain) | (with_reducible apply v_isN) | (with_reducible apply v_isB) | (with_reducible apply v_lc) | (with_reducible apply a_cons) | (with_reducible apply a_nil) | (with_reducible apply b_cmp) | (with_reducible apply b_and) | (with_reducible apply b_or) | (with_reducible apply b_not) | (with_reducible apply b_call) | (with_reducible apply b_isi) | (with_reducible apply b_lit) | (with_reducible apply b_isN) | (with_reducible apply b_isB) | (with_reducible apply b_chain) | (with_reducible apply b_mt) | (with_reducible apply b_fn) | (with_reducible apply i_rng) | (with_reducible apply i_ix) | (with_reducible apply i_fn) | (with_reducible apply i_call) | (with_reducible apply i_bin) | (with_reducible apply i_lst) | (with_reducible apply i_sortK) | (with_reducible apply i_tup) | (with_reducible apply i_lc) | (with_reducible apply v_dcpy) | (with_reducible apply v_lnew) | (with_reducible apply v_dget) | (with_reducible apply v_kin) | (with_reducible apply v_kix) | (with_reducible apply b_kin) | (with_reducible apply ie_t0) | (with_reducible apply ie_t1) | (with_reducible apply ie_t2) | (with_reducible apply ie_t3) | (with_reducible apply ie_t4) | (with_reducible apply ie_t5) | (with_reducible apply ie_t6) | refine ⟨Nat.le_of_ble_eq_true rfl, ?_⟩ | refine ⟨_, rfl, ?_⟩))
/-! walks: need_pairs, need_function, need_program -/
theorem frz_lst {s : Store} {n : Nat} {xs : List Val} (h : s[n]? = some (.lst xs)) (hp : puL 999 xs = true) : frzV 1000 (.loc n) s = some (.lst xs, s.set n .dead) := by
  show frzV (999 + 1) (.loc n) s = _
  simp only [frzV, h, (frz_pure 999).2 xs _ hp, Option.map]
theorem frz_dct {s : Store} {n : Nat} {ks : List Txt} {xs : List Val} (h : s[n]? = some (.dct ks xs)) (hp : puL 999 xs = true) : frzV 1000 (.loc n) s = some (.dct ks xs, s.set n .dead) := by
  show frzV (999 + 1) (.loc n) s = _
  simp only [frzV, h, (frz_pure 999).2 xs _ hp, Option.map]
theorem puL_strs {ts : List Txt} (h : ts.length ≤ 900) : puL 999 (ts.map .str) = true := by
  have := puL_of (n := 1) (xs := ts.map Val.str) fun x hx => by
    obtain ⟨t, _, rfl⟩ := List.mem_map.mp hx; rfl
  rw [List.length_map] at this
  obtain ⟨m, hm⟩ := Nat.exists_eq_add_of_le (show 1 + ts.length + 1 ≤ 999 by omega)
  rw [hm]
  exact puL_le this m
theorem app_s {st : Store} {xs : List Val} {v : Val} (h : xs.length ≤ 1000000) : mtV .append (.loc st.length) [v] (st ++ [.lst xs]) = some (.non, st ++ [.lst (xs ++ [v])]) := by
  have hk : (st ++ [Ob.lst xs])[st.length]? = some (.lst xs) := by simp
  simp only [mtV, hk]
  rw [if_pos (by simp [show PySem.sizeLine = 16777216 from rfl]; omega)]
  simp
theorem add_tup {st : Store} {xs ys : List Val} (h : xs.length + ys.length ≤ 1000000) : binV st .add (.tup xs) (.tup ys) = some (.tup (xs ++ ys)) := by
  simp only [binV, addV]; rw [if_pos (Nat.le_trans h (by decide))]
section
variable {p : Prg} (hw : FAt p 0 d_is_word) (hg : FAt p 1 d_good_fields) (hn : FAt p 2 d_need_kind) (hl : FAt p 3 d_look_through)
variable (hm : FAt p 5 d_must) (hpo : FAt p 4 d_parts_of)
variable (hS : FAt p 7 d_Scope_look) (hSp : FAt p 8 d_Scope_look_plain) (hSn : FAt p 9 d_Scope_look_new) (hSm : FAt p 10 d_Scope_look_name) (hSc : FAt p 11 d_Scope_look_call)
variable (hM : FAt p 12 d_Scope) (hI : FAt p 6 d_Scope___init__) (hnp : FAt p 13 d_need_pairs) (hnf : FAt p 14 d_need_function) (hng : FAt p 15 d_need_program)
variable {nS nM n1 n2 n3 n4 n5 n6 n7 : Txt} (gS : GAt p 0 (nS, .str smallT)) (gM : GAt p 2 (nM, .int 8)) (gZ : GAt p 3 (n1, .dct sizesK sizesX)) (gH : GAt p 4 (n2, .tup (headsT.map .str))) (gG : GAt p 5 (n3, .str signsT)) (gF : GAt p 6 (n4, .int 12)) (gP : GAt p 7 (n5, .int 12)) (gT : GAt p 8 (n6, .int (10 ^ 30))) (gR : GAt p 1 (n7, .str greatT))
include hw hm hnp in
theorem pairs_ok (K : Nat) (sg : Txt) (v : Val) (d : Vd) (ws : List Txt) (st : Store) (h : pairsT sg v = some (d, ws)) :
    RetX (fun x s => d ≠ .ok ∧ x = xV d ∧ Gw st s) (callN p (K + 3) 13 [v, .str sg] st) (fun r s => d = .ok ∧ r = .lst (ws.map .str) ∧ Gw st s ∧ ws.length ≤ 500) := by
  refine call_of hnp rfl ?_
  simp only [d_need_pairs, List.map_cons, List.map_nil, List.length_cons, List.length_nil, List.cons_append, List.nil_append, Nat.reduceAdd, Nat.reduceSub, Nat.zero_add, Nat.add_zero, Nat.sub_self, Nat.sub_zero, List.replicate]
  by_cases hv : ∃ ps, v = .tup ps
  rotate_left
  · have ⟨nv, hd⟩ : nl v = true ∧ d = .prog := by
      cases v <;> first | exact (hv ⟨_, rfl⟩).elim | (cases h; done) | (simp [pairsT] at h; exact ⟨rfl, h.1.symm⟩)
    subst hd
    have hs : isTup v = false := by cases v <;> first | rfl | exact (hv ⟨_, rfl⟩).elim
    array_mem_dec
    refine ⟨_, isi_tup nv, ?_⟩
    rw [hs]
    array_mem_dec
    refine must_x hm (fun z => nomatch z) (fun _ => ?_)
    exact ⟨nofun, rfl, Gw.refl⟩
  obtain ⟨ps, rfl⟩ := hv
  simp only [pairsT] at h
  split at h
  rotate_left
  · cases h
  rename_i hlen
  array_mem_dec
  refine must_x hm (fun _ => ?_) (fun z => nomatch z)
  array_mem_dec
  rw [ckN]
  refine for_suf (fun xs η s => (∃ y, η = [some (.tup ps), some (.str sg), some (.loc st.length), y]) ∧ ∃ acc, pairsD sg xs acc = some (d, ws) ∧ s = st ++ [.lst (acc.map .str)] ∧ acc.length + xs.length ≤ 500) ⟨⟨_, rfl⟩, [], h, rfl, by simpa using hlen⟩ ?_ ?_
  · rintro x r η s ⟨⟨y, rfl⟩, acc, hd, rfl, hac⟩
    refine ⟨_, rfl, ?_⟩
    by_cases hx : ∃ a b, x = .tup [a, b]
    rotate_left
    · have ⟨nx, hdp⟩ : nl x = true ∧ d = .prog := by
        cases x with
        | loc n => simp [pairsD] at hd
        | tup xs =>
          refine ⟨rfl, ?_⟩
          match xs, hx, hd with
          | [], _, hd => simp [pairsD] at hd; exact hd.1.symm
          | [_], _, hd => simp [pairsD] at hd; exact hd.1.symm
          | [_, _], hx, _ => exact (hx ⟨_, _, rfl⟩).elim
          | _ :: _ :: _ :: _, _, hd => simp [pairsD] at hd; exact hd.1.symm
        | _ => simp [pairsD] at hd; exact ⟨rfl, hd.1.symm⟩
      subst hdp
      by_cases ht : ∃ xs, x = .tup xs
      · obtain ⟨xs, rfl⟩ := ht
        array_mem_dec
        refine iteT' rfl ?_
        array_mem_dec
        have e2 : eqf (.int xs.length) (.int 2) = false := by
          match xs, hx with
          | [], _ => rfl
          | [_], _ => rfl
          | [_, _], hx => exact (hx ⟨_, _, rfl⟩).elim
          | _ :: _ :: _ :: r, _ => simp [eqf]; omega
        refine must_x hm (fun z => ?_) (fun _ => ⟨nofun, rfl, Gw.push⟩)
        rw [e2] at z; cases z
      · have hs : isTup x = false := by cases x <;> first | rfl | exact (ht ⟨_, rfl⟩).elim
        array_mem_dec
        refine ⟨_, isi_tup nx, ?_⟩
        rw [hs]
        array_mem_dec
        refine iteF' rfl ?_
        array_mem_dec
        refine must_x hm (fun z => nomatch z) (fun _ => ⟨nofun, rfl, Gw.push⟩)
    obtain ⟨a, b, rfl⟩ := hx
    array_mem_dec
    refine iteT' rfl ?_
    array_mem_dec
    refine must_x hm (fun _ => ?_) (fun z => nomatch z)
    array_mem_dec
    simp only [pairsD] at hd
    cases hb : isWV sg a with
    | none => rw [hb] at hd; cases hd
    | some ba =>
      rw [hb] at hd
      refine (is_word_ok hw (K + 1) sg a ba _ hb).any.imp fun v s' ⟨e1, e2⟩ => ?_
      subst e1 e2
      array_mem_dec
      cases ba with
      | false =>
        cases hd
        exact must_x hm (fun z => nomatch z) (fun _ => ⟨nofun, rfl, Gw.push⟩)
      | true =>
        refine must_x hm (fun _ => ?_) (fun z => nomatch z)
        obtain ⟨t, rfl, _⟩ := isWV_true hb
        dsimp only at hd
        array_mem_dec
        refine ⟨decide (t ∈ acc), by show isinV _ _ (.loc st.length) = _; simp only [isinV, List.getElem?_concat_length]; exact in_strs', ?_⟩
        by_cases hin : t ∈ acc
        · rw [if_pos hin] at hd
          cases hd
          refine iteT' (decide_eq_true hin) ?_
          array_mem_dec
          exact ⟨nofun, rfl, Gw.push⟩
        · rw [if_neg hin] at hd
          refine iteF' (decide_eq_false hin) ?_
          array_mem_dec
          refine ⟨by simp only [mtOk, List.getElem?_concat_length], ?_⟩
          array_mem_dec
          refine ⟨_, app_s (by simp at hac ⊢; omega), ?_⟩
          array_mem_dec
          exact ⟨⟨_, rfl⟩, acc ++ [t], hd, by simp, by simp at hac ⊢; omega⟩
  · rintro η s ⟨⟨y, rfl⟩, acc, hd, rfl, hac⟩
    cases hd
    refine t_seq (t_frz (v := .loc st.length) rfl (frz_lst (xs := ws.map .str) (by simp) (puL_strs (by simp at hac; omega))) ?_)
    array_mem_dec
    exact ⟨rfl, rfl, Gw.set Gw.push, by simpa using hac⟩
include hM hI in
theorem scope_new (K : Nat) (a b : Val) (st : Store) : Ret (callN p (K + 2) 12 [a, b] st) fun v s => v = .loc st.length ∧ s = st ++ [.ins 0 [fLet, fEar] [a, b]] := by
  refine call_of hM rfl ?_
  simp only [d_Scope, List.map_cons, List.map_nil, List.length_cons, List.length_nil, List.cons_append, List.nil_append, Nat.reduceAdd, Nat.reduceSub, Nat.zero_add, Nat.add_zero, Nat.sub_self, Nat.sub_zero, List.replicate]
  refine t_mkI rfl ?_
  refine call_of hI rfl ?_
  simp only [d_Scope___init__, List.map_cons, List.map_nil, List.length_cons, List.length_nil, List.cons_append, List.nil_append, Nat.reduceAdd, Nat.reduceSub, Nat.zero_add, Nat.add_zero, Nat.sub_self, Nat.sub_zero, List.replicate]
  array_mem_dec
  refine ⟨_, by simp only [setF, List.getElem?_concat_length, true_and, List.length_nil, putI]; rfl, ?_⟩
  array_mem_dec
  refine ⟨st ++ [.ins 0 [fLet, fEar] [a, b]], ?_, ?_⟩
  · have e : (((st ++ [Ob.ins 0 [] []]).set st.length (.ins 0 [fLet] [a])))[st.length]? = some (.ins 0 [fLet] [a]) := by simp
    simp only [setF]
    rw [e]
    simp [putI, fLet, fEar]
  array_mem_dec
  exact ⟨by trivial, by trivial, by trivial⟩
end
end Mi
namespace Mi
local macro_rules | `(tactic| array_mem_dec) => `(tactic| repeat (first | (with_reducible apply t_seq) | (with_reducible apply t_skip) | (with_reducible apply t_asg) | (with_reducible apply t_ret) | (with_reducible apply t_expr) | (with_reducible apply t_put) | (with_reducible apply t_ite) | (with_reducible apply t_for) | (with_reducible apply t_asgT) | (with_reducible apply t_setf) | (with_reducible apply t_raise) | (with_reducible apply t_retN) | (with_reducible apply t_brk) | (with_reducible apply t_cont) | ((with_reducible apply v_var); rfl) | ((with_reducible apply b_var); rfl) | ((with_reducible apply i_var); rfl) | ((with_reducible apply v_glb); first | assumption | rfl) | (with_reducible apply v_fld) | (with_reducible apply v_meth) | (with_reducible apply b_fld) | (with_reducible apply b_meth) | (with_reducible apply i_fld) | (with_reducible apply i_meth) | (with_reducible apply v_lit) | (with_reducible apply v_ix) | (with_reducible apply v_bin) | (with_reducible apply v_cmp) | (with_reducible apply v_call) | (with_reducible apply v_tup) | (with_reducible apply v_lst) | (with_reducible apply v_new) | (with_reducible apply v_fn) | (with_reducible apply v_isi) | (with_reducible apply v_mt) | (with_reducible apply v_and) | (with_reducible apply v_or) | (with_reducible apply v_not) | (with_reducible apply v_ite) | (with_reducible apply v_neg) | (with_reducible apply v_chain) | (with_reducible apply v_isN) | (with_reducible apply v_isB) | (with_reducible apply v_lc) | (with_reducible apply a_cons) | (with_reducible apply a_nil) | (with_reducible apply b_cmp) | (with_reducible apply b_and) | (with_reducible apply b_or) | (with_reducible apply b_not) | (with_reducible apply b_call) | (with_reducible apply b_isi) | (with_reducible apply b_lit) | (with_reducible apply b_isN) | (with_reducible apply b_isB) | (with_reducible apply b_chain) | (with_reducible apply b_mt) | (with_reducible apply b_fn) | (with_reducible apply i_rng) | (with_reducible apply i_ix) | (with_reducible apply i_fn) | (with_reducible apply i_call) | (with_reducible apply i_bin) | (with_reducible apply i_lst) | (with_reducible apply i_sortK) | (with_reducible apply i_tup) | (with_reducible apply i_lc) | (with_reducible apply v_dcpy) | (with_reducible apply v_lnew) | (with_reducible apply v_dget) | (with_reducible apply v_kin) | (with_reducible apply v_kix) | (with_reducible apply b_kin) | (with_reducible apply ie_t0) | (with_reducible apply ie_t1) | (with_reducible apply ie_t2) | (with_reducible apply ie_t3) | (with_reducible apply ie_t4) | (with_reducible apply ie_t5) | (with_reducible apply ie_t6) | refine ⟨Nat.le_of_ble_eq_true rfl, ?_⟩ | refine ⟨_, rfl, ?_⟩))
/-! walks: need_function, need_program -/
theorem setA_mem {t : Txt} {f v : Val} : ∀ {ks : List Txt} {xs : List Val}, v ∈ setA t f ks xs → v = f ∨ v ∈ xs
  | [], xs, h => .inr h
  | _ :: _, [], h => by simp [setA] at h
  | k :: ks, x :: xs, h => by
    simp only [setA, List.mem_cons] at h
    rcases h with h | h
    · split at h
      · exact .inl h
      · exact .inr (by simp [h])
    · rcases setA_mem h with h | h
      · exact .inl h
      · exact .inr (by simp [h])
theorem setA_len' {t : Txt} {f : Val} : ∀ {ks : List Txt} {xs : List Val}, (setA t f ks xs).length = xs.length
  | [], xs => rfl
  | _ :: _, [] => rfl
  | k :: ks, x :: xs => by simp only [setA, List.length_cons, setA_len']
theorem putD_mem {t : Txt} {f v : Val} {ks : List Txt} {xs : List Val} (h : v ∈ (putD t f ks xs).2) : v = f ∨ v ∈ xs := by
  unfold putD at h
  split at h
  · exact setA_mem h
  · simp only [List.mem_append, List.mem_singleton] at h
    exact h.symm
theorem putD_len' {t : Txt} {f : Val} {ks : List Txt} {xs : List Val} : (putD t f ks xs).2.length ≤ xs.length + 1 := by
  unfold putD
  split
  · simp [setA_len']
  · simp
theorem bnds_shape {ls : List Txt} {x : Val} {r : List Val} {d : Vd} (h : bndsD ls (x :: r) = some d) : ∃ a k, x = .tup [a, k] := by
  unfold bndsD at h
  split at h
  · rename_i q; cases q
  · rename_i q; cases q; exact ⟨_, _, rfl⟩
  · cases h
theorem pairsT_tup {sg : Txt} {v : Val} {ws : List Txt} (h : pairsT sg v = some (.ok, ws)) : ∃ ps, v = .tup ps := by
  cases v <;> first | exact ⟨_, rfl⟩ | (simp [pairsT] at h)
section
variable {p : Prg} (hw : FAt p 0 d_is_word) (hg : FAt p 1 d_good_fields) (hn : FAt p 2 d_need_kind) (hl : FAt p 3 d_look_through)
variable (hm : FAt p 5 d_must) (hpo : FAt p 4 d_parts_of)
variable (hS : FAt p 7 d_Scope_look) (hSp : FAt p 8 d_Scope_look_plain) (hSn : FAt p 9 d_Scope_look_new) (hSm : FAt p 10 d_Scope_look_name) (hSc : FAt p 11 d_Scope_look_call)
variable (hM : FAt p 12 d_Scope) (hI : FAt p 6 d_Scope___init__) (hnp : FAt p 13 d_need_pairs) (hnf : FAt p 14 d_need_function) (hng : FAt p 15 d_need_program)
variable {nS nM n1 n2 n3 n4 n5 n6 n7 : Txt} (gS : GAt p 0 (nS, .str smallT)) (gM : GAt p 2 (nM, .int 8)) (gZ : GAt p 3 (n1, .dct sizesK sizesX)) (gH : GAt p 4 (n2, .tup (headsT.map .str))) (gG : GAt p 5 (n3, .str signsT)) (gF : GAt p 6 (n4, .int 12)) (gP : GAt p 7 (n5, .int 12)) (gT : GAt p 8 (n6, .int (10 ^ 30))) (gR : GAt p 1 (n7, .str greatT))
include hw hg hn hl hm hpo hS hSp hSn hSm hSc hM hI hnp hnf gS gM gZ gH gG gP gT gR in
theorem fun_ok (K : Nat) (v : Val) (je : Nat) (eks : List Txt) (exs : List Val) (d : Vd) (st : Store) (he : st[je]? = some (.dct eks exs)) (h : funD eks exs v = some d) :
    RetX (fun x s => d ≠ .ok ∧ x = xV d ∧ Gw st s) (callN p (K + 42) 14 [v, .loc je] st) (fun r s => d = .ok ∧ r = .non ∧ Gw st s) := by
  refine call_of hnf rfl ?_
  simp only [d_need_function, List.map_cons, List.map_nil, List.length_cons, List.length_nil, List.cons_append, List.nil_append, Nat.reduceAdd, Nat.reduceSub, Nat.zero_add, Nat.add_zero, Nat.sub_self, Nat.sub_zero, List.replicate]
  by_cases hv : ∃ nm lt pr rs bd, v = .tup [nm, lt, pr, rs, bd]
  rotate_left
  · by_cases ht : ∃ xs, v = .tup xs
    · obtain ⟨xs, rfl⟩ := ht
      have ⟨hd, e2⟩ : d = .prog ∧ eqf (.int xs.length) (.int 5) = false := by
        match xs, hv, h with
        | [], _, h => exact ⟨by simpa [funD] using h.symm, rfl⟩
        | [_], _, h => exact ⟨by simpa [funD] using h.symm, rfl⟩
        | [_, _], _, h => exact ⟨by simpa [funD] using h.symm, rfl⟩
        | [_, _, _], _, h => exact ⟨by simpa [funD] using h.symm, rfl⟩
        | [_, _, _, _], _, h => exact ⟨by simpa [funD] using h.symm, rfl⟩
        | [_, _, _, _, _], hv, _ => exact (hv ⟨_, _, _, _, _, rfl⟩).elim
        | _ :: _ :: _ :: _ :: _ :: _ :: r, _, h => exact ⟨by simpa [funD] using h.symm, by simp [eqf]; omega⟩
      subst hd
      array_mem_dec
      refine iteT' rfl ?_
      array_mem_dec
      refine must_x hm (fun z => ?_) (fun _ => ⟨nofun, rfl, Gw.refl⟩)
      rw [e2] at z; cases z
    · have ⟨nv, hd⟩ : nl v = true ∧ d = .prog := by
        cases v <;> first | exact (ht ⟨_, rfl⟩).elim | (simp [funD] at h; done) | (simp [funD] at h; exact ⟨rfl, h.symm⟩)
      subst hd
      have hs : isTup v = false := by cases v <;> first | rfl | exact (ht ⟨_, rfl⟩).elim
      array_mem_dec
      refine ⟨_, isi_tup nv, ?_⟩
      rw [hs]
      array_mem_dec
      refine iteF' rfl ?_
      array_mem_dec
      refine must_x hm (fun z => nomatch z) (fun _ => ⟨nofun, rfl, Gw.refl⟩)
  obtain ⟨nm, lt, pr, rs, bd, rfl⟩ := hv
  simp only [funD] at h
  array_mem_dec
  refine iteT' rfl ?_
  array_mem_dec
  refine must_x hm (fun _ => ?_) (fun z => nomatch z)
  array_mem_dec
  have ⟨ba, hba⟩ : ∃ ba, isWV smallT nm = some ba := by
    cases q : isWV smallT nm with
    | none => simp [headD, q, seqD] at h
    | some ba => exact ⟨ba, rfl⟩
  refine (is_word_ok hw (K + 40) smallT nm ba _ hba).any.imp fun v s' ⟨e1, e2⟩ => ?_
  subst e1 e2
  array_mem_dec
  cases ba with
  | false =>
    simp [headD, hba, seqD] at h
    subst h
    refine iteF ?_
    array_mem_dec
    exact must_x hm (fun z => nomatch z) (fun _ => ⟨nofun, rfl, Gw.refl⟩)
  | true =>
  obtain ⟨t, rfl, _⟩ := isWV_true hba
  refine iteT ?_
  array_mem_dec
  refine ⟨_, _, _, _, gZ, rfl, ?_⟩
  array_mem_dec
  simp only [headD, hba] at h
  cases hz : (look t sizesK sizesX).isSome with
  | true =>
    rw [hz] at h
    simp [seqD] at h
    subst h
    exact must_x hm (fun z => nomatch z) (fun _ => ⟨nofun, rfl, Gw.refl⟩)
  | false =>
  rw [hz] at h
  simp only [Bool.false_eq_true, if_false] at h
  refine must_x hm (fun _ => ?_) (fun z => nomatch z)
  array_mem_dec
  refine ⟨(look t eks exs).isSome, by show isinV _ _ (.loc je) = _; simp only [isinV, he, keyOf, Option.map], ?_⟩
  cases hk : (look t eks exs).isSome with
  | true =>
    rw [hk] at h
    simp [seqD] at h
    subst h
    refine iteT ?_
    array_mem_dec
    exact ⟨nofun, rfl, Gw.refl⟩
  | false =>
  rw [hk] at h
  simp only [Bool.false_eq_true, if_false, seqD] at h
  refine iteF ?_
  array_mem_dec
  cases hpl : pairsT greatT lt with
  | none => rw [hpl] at h; cases h
  | some q =>
  obtain ⟨dl, ls⟩ := q
  rw [hpl] at h
  refine (pairs_ok hw hm hnp (K + 38) greatT lt dl ls s' hpl).impX (fun v s2 ⟨q1, q2, gw, _⟩ => ?_) (fun x s2 ⟨q1, q2, q3⟩ => ?_)
  rotate_left
  · have : d = dl := by cases dl <;> first | exact (q1 rfl).elim | exact (Option.some.inj h).symm
    subst this; exact ⟨q1, q2, q3⟩
  subst q1 q2
  dsimp only at h
  array_mem_dec
  obtain ⟨bs, rfl⟩ := pairsT_tup hpl
  dsimp only at h
  obtain ⟨d1, hd1, g1, g2⟩ : ∃ d1, bndsD [] bs = some d1 ∧ (d1 = .ok → bndsD [] bs = some .ok) ∧ (d1 ≠ .ok → d = d1) := by
    rcases seq_ok h with ⟨h1, h2⟩ | ⟨h1, h2⟩
    · exact ⟨.ok, h1, fun _ => h1, fun q => (q rfl).elim⟩
    · exact ⟨d, h1, fun q => (h2 q).elim, fun _ => rfl⟩
  refine ⟨_, rfl, ?_⟩
  rw [ckN]
  refine for_suf (fun xs η s => bndsD [] xs = some d1 ∧ (∃ y z, η = [some (.tup [.str t, .tup bs, pr, rs, bd]), some (.loc je), some (.tup (ls.map .str)), y, z, none, none, none]) ∧ s = s2) ⟨hd1, ⟨_, _, rfl⟩, rfl⟩ ?_ ?_
  · rintro x r η s ⟨hb, ⟨y, z, rfl⟩, rfl⟩
    obtain ⟨a, k, rfl⟩ := bnds_shape hb
    refine ⟨_, rfl, ?_⟩
    simp only [bndsD] at hb
    obtain ⟨dk, hdk⟩ : ∃ dk, kindD [] k = some dk := by
      cases q : kindD [] k with
      | none => rw [q] at hb; cases hb
      | some dk => exact ⟨dk, rfl⟩
    rw [hdk] at hb
    array_mem_dec
    refine kind_x hw hg hn hl gS gM hdk (fun z => ?_) (fun z => ?_)
    · subst z
      array_mem_dec
      exact ⟨hb, ⟨_, _, rfl⟩, rfl⟩
    · subst z
      cases hb
      have e := g2 nofun
      subst e
      exact ⟨nofun, rfl, gw⟩
  rintro η s ⟨hb, ⟨y, z, rfl⟩, rfl⟩
  cases hb
  rw [g1 rfl] at h
  simp only [seqD, tailD] at h
  array_mem_dec
  cases hpp : pairsT smallT pr with
  | none => rw [hpp] at h; cases h
  | some q =>
  obtain ⟨dl, names⟩ := q
  rw [hpp] at h
  refine (pairs_ok hw hm hnp (K + 38) smallT pr dl names s hpp).impX (fun v s3 ⟨q1, q2, gw3, hns⟩ => ?_) (fun x s2 ⟨q1, q2, q3⟩ => ?_)
  rotate_left
  · have : d = dl := by cases dl <;> first | exact (q1 rfl).elim | exact (Option.some.inj h).symm
    subst this; exact ⟨q1, q2, gw.trans q3⟩
  subst q1 q2
  dsimp only at h
  have gw4 := gw.trans gw3
  obtain ⟨ps, rfl⟩ := pairsT_tup hpp
  dsimp only at h
  refine t_cut (fun η s => bndsD ls ps = some .ok ∧ (∃ y z u v, η = [some (.tup [.str t, .tup bs, .tup ps, rs, bd]), some (.loc je), some (.tup (ls.map .str)), y, z, some (.lst (names.map .str)), u, v]) ∧ s = s3) ?_ ?_
  · obtain ⟨d1, hd1, g1, g2⟩ : ∃ d1, bndsD ls ps = some d1 ∧ (d1 = .ok → bndsD ls ps = some .ok) ∧ (d1 ≠ .ok → d = d1) := by
      rcases seq_ok h with ⟨h1, h2⟩ | ⟨h1, h2⟩
      · exact ⟨.ok, h1, fun _ => h1, fun q => (q rfl).elim⟩
      · exact ⟨d, h1, fun q => (h2 q).elim, fun _ => rfl⟩
    array_mem_dec
    rw [ckN]
    refine for_suf (fun xs η s => bndsD ls xs = some d1 ∧ (∃ y z u v, η = [some (.tup [.str t, .tup bs, .tup ps, rs, bd]), some (.loc je), some (.tup (ls.map .str)), y, z, some (.lst (names.map .str)), u, v]) ∧ s = s3) ⟨hd1, ⟨_, _, _, _, rfl⟩, rfl⟩ ?_ ?_
    · rintro x r η s ⟨hb, ⟨y, z, u, v, rfl⟩, rfl⟩
      obtain ⟨a, k, rfl⟩ := bnds_shape hb
      refine ⟨_, rfl, ?_⟩
      simp only [bndsD] at hb
      obtain ⟨dk, hdk⟩ : ∃ dk, kindD ls k = some dk := by
        cases q : kindD ls k with
        | none => rw [q] at hb; cases hb
        | some dk => exact ⟨dk, rfl⟩
      rw [hdk] at hb
      array_mem_dec
      refine kind_x hw hg hn hl gS gM hdk (fun z => ?_) (fun z => ?_)
      · subst z
        array_mem_dec
        exact ⟨hb, ⟨_, _, _, _, rfl⟩, rfl⟩
      · subst z
        cases hb
        have e := g2 nofun
        subst e
        exact ⟨nofun, rfl, gw4⟩
    · rintro η s ⟨hb, ⟨y, z, u, v, rfl⟩, rfl⟩
      cases hb
      exact ⟨g1 rfl, ⟨_, _, _, _, rfl⟩, rfl⟩
  rintro η s4 ⟨hb, ⟨y, z, u, v, rfl⟩, rfl⟩
  rw [hb] at h
  simp only [seqD] at h
  obtain ⟨dk, hdk⟩ : ∃ dk, kindD ls rs = some dk := by
    cases q : kindD ls rs with
    | none => rw [q] at h; cases h
    | some dk => exact ⟨dk, rfl⟩
  rw [hdk] at h
  array_mem_dec
  refine kind_x hw hg hn hl gS gM hdk (fun z => ?_) (fun z => ?_)
  rotate_left
  · subst z
    cases h
    exact ⟨nofun, rfl, gw4⟩
  subst z
  dsimp only at h
  array_mem_dec
  refine (scope_new hM hI (K + 39) (.tup (ls.map .str)) (.loc je) s4).any.imp fun v s5 ⟨e1, e2⟩ => ?_
  subst e1 e2
  have hi : (s4 ++ [Ob.ins 0 [fLet, fEar] [.tup (ls.map .str), .loc je]])[s4.length]? = some (.ins 0 [fLet, fEar] [.tup (ls.map .str), .loc je]) := by simp
  refine ⟨ins_at hi (by decide), ?_⟩
  array_mem_dec
  have he2 : (s4 ++ [Ob.ins 0 [fLet, fEar] [.tup (ls.map .str), .loc je]])[je]? = some (.dct eks exs) := (gw4.trans Gw.push).at he
  refine (scope_ok hw hg hn hl hm hpo hS hSp hSn hSm hSc gS gM gZ gH gG gP gT s4.length je ls eks exs 14 (K + 1) bd names 1 d _ hi he2 (by omega) h).impX (fun v s ⟨q1, q2, q3⟩ => ?_) (fun x s ⟨q1, q2, q3⟩ => ?_)
  · subst q3
    array_mem_dec
    exact ⟨q1, by trivial, gw4.trans Gw.push⟩
  · subst q3
    exact ⟨q1, q2, gw4.trans Gw.push⟩
include hw hg hn hl hm hpo hS hSp hSn hSm hSc hM hI hnp hnf hng gS gM gZ gH gG gP gT gR gF in
theorem prog_ok (K : Nat) (fs : List Val) (d : Vd) (ks : List Txt) (xs : List Val) (st : Store) (h : progT fs = some (d, ks, xs)) (hp : ∀ f ∈ fs, puV 900 f = true) :
    RetX (fun x s => d ≠ .ok ∧ x = xV d ∧ Gw st s) (callN p (K + 43) 15 [.lst fs] st) (fun r s => d = .ok ∧ r = .dct ks xs ∧ Gw st s) := by
  refine call_of hng rfl ?_
  simp only [d_need_program, List.map_cons, List.map_nil, List.length_cons, List.length_nil, List.cons_append, List.nil_append, Nat.reduceAdd, Nat.reduceSub, Nat.zero_add, Nat.add_zero, Nat.sub_self, Nat.sub_zero, List.replicate]
  array_mem_dec
  refine iteT' rfl ?_
  array_mem_dec
  simp only [progT] at h
  refine must_x hm (fun z => ?_) (fun z => ?_)
  rotate_left
  · have z := of_decide_eq_false z
    rw [if_neg (by omega)] at h
    cases h
    exact ⟨nofun, rfl, Gw.refl⟩
  have z := of_decide_eq_true z
  have z : fs.length ≤ 12 := by omega
  rw [if_pos z] at h
  array_mem_dec
  refine v_dnew2 (ks := []) (xs := []) (D := ([], [])) ?_
  array_mem_dec
  refine ⟨rfl, Nat.le_of_ble_eq_true rfl, rfl, ?_⟩
  array_mem_dec
  rw [ckN]
  refine for_suf (fun rr η s => (∃ y, η = [some (.lst fs), some (.loc st.length), y]) ∧ ∃ eks exs, progD rr eks exs = some (d, ks, xs) ∧ s[st.length]? = some (.dct eks exs) ∧ Gw st s ∧ (∀ v ∈ exs, puV 900 v = true) ∧ exs.length + rr.length ≤ 12 ∧ ∀ f ∈ rr, puV 900 f = true)
    ⟨⟨_, rfl⟩, [], [], h, by simp, Gw.push, by simp, by simpa using z, hp⟩ ?_ ?_
  · rintro f r η s ⟨⟨y, rfl⟩, eks, exs, hd, hs, gw, hpe, hlen, hpr⟩
    refine ⟨_, rfl, ?_⟩
    simp only [progD] at hd
    cases hf : funD eks exs f with
    | none => rw [hf] at hd; cases hd
    | some df =>
    rw [hf] at hd
    array_mem_dec
    refine (fun_ok hw hg hn hl hm hpo hS hSp hSn hSm hSc hM hI hnp hnf gS gM gZ gH gG gP gT gR K f st.length eks exs df s hs hf).impX (fun v s2 ⟨q1, q2, q3⟩ => ?_) (fun x s2 ⟨q1, q2, q3⟩ => ?_)
    rotate_left
    · have : d = df := by cases df <;> first | exact (q1 rfl).elim | (cases hd; rfl)
      subst this
      exact ⟨q1, q2, gw.trans q3⟩
    subst q1 q2
    dsimp only at hd
    obtain ⟨t, tl, rfl⟩ : ∃ t tl, f = .tup (.str t :: tl) := by
      split at hd
      · exact ⟨_, _, rfl⟩
      · cases hd
    dsimp only at hd
    have hs2 := q3.at hs
    array_mem_dec
    refine ⟨_, by simp only [putV, hs2, keyOf, Option.bind]; rw [if_pos (by simp [show PySem.sizeLine = 16777216 from rfl]; omega)], ?_⟩
    array_mem_dec
    refine ⟨⟨_, rfl⟩, _, _, hd, List.getElem?_set_self (List.getElem?_eq_some_iff.mp hs2).1, (gw.trans q3).set, fun v hv => ?_, ?_, fun f hf => hpr f (by simp [hf])⟩
    · rcases putD_mem hv with rfl | hv
      · exact hpr _ (by simp)
      · exact hpe v hv
    · have := putD_len' (t := t) (f := .tup (.str t :: tl)) (ks := eks) (xs := exs)
      simp at hlen ⊢; omega
  · rintro η s ⟨⟨y, rfl⟩, eks, exs, hd, hs, gw, hpe, hlen, hpr⟩
    cases hd
    have hpu : puL 999 xs = true := by
      have := puL_of (n := 900) (xs := xs) hpe
      obtain ⟨m, hm⟩ := Nat.exists_eq_add_of_le (show 900 + xs.length + 1 ≤ 999 by simp at hlen; omega)
      rw [hm]
      exact puL_le this m
    refine t_seq (t_frz (v := .loc st.length) rfl (frz_dct hs hpu) ?_)
    array_mem_dec
    exact ⟨rfl, rfl, gw.set⟩
end
end Mi
namespace Mi
local macro_rules | `(tactic| array_mem_dec) => `(tactic| repeat (first | (with_reducible apply t_seq) | (with_reducible apply t_skip) | (with_reducible apply t_asg) | (with_reducible apply t_ret) | (with_reducible apply t_expr) | (with_reducible apply t_put) | (with_reducible apply t_ite) | (with_reducible apply t_for) | (with_reducible apply t_asgT) | (with_reducible apply t_setf) | (with_reducible apply t_raise) | (with_reducible apply t_retN) | (with_reducible apply t_brk) | (with_reducible apply t_cont) | ((with_reducible apply v_var); rfl) | ((with_reducible apply b_var); rfl) | ((with_reducible apply i_var); rfl) | ((with_reducible apply v_glb); first | assumption | rfl) | (with_reducible apply v_fld) | (with_reducible apply v_meth) | (with_reducible apply b_fld) | (with_reducible apply b_meth) | (with_reducible apply i_fld) | (with_reducible apply i_meth) | (with_reducible apply v_lit) | (with_reducible apply v_ix) | (with_reducible apply v_bin) | (with_reducible apply v_cmp) | (with_reducible apply v_call) | (with_reducible apply v_tup) | (with_reducible apply v_lst) | (with_reducible apply v_new) | (with_reducible apply v_fn) | (with_reducible apply v_isi) | (with_reducible apply v_mt) | (with_reducible apply v_and) | (with_reducible apply v_or) | (with_reducible apply v_not) | (with_reducible apply v_ite) | (with_reducible apply v_neg) | (with_reducible apply v_chain) | (with_reducible apply v_isN) | (with_reducible apply v_isB) | (with_reducible apply v_lc) | (with_reducible apply a_cons) | (with_reducible apply a_nil) | (with_reducible apply b_cmp) | (with_reducible apply b_and) | (with_reducible apply b_or) | (with_reducible apply b_not) | (with_reducible apply b_call) | (with_reducible apply b_isi) | (with_reducible apply b_lit) | (with_reducible apply b_isN) | (with_reducible apply b_isB) | (with_reducible apply b_chain) | (with_reducible apply b_mt) | (with_reducible apply b_fn) | (with_reducible apply i_rng) | (with_reducible apply i_ix) | (with_reducible apply i_fn) | (with_reducible apply i_call) | (with_reducible apply i_bin) | (with_reducible apply i_lst) | (with_reducible apply i_sortK) | (with_reducible apply i_tup) | (with_reducible apply i_lc) | (with_reducible apply v_dcpy) | (with_reducible apply v_lnew) | (with_reducible apply v_dget) | (with_reducible apply v_kin) | (with_reducible apply v_kix) | (with_reducible apply b_kin) | (with_reducible apply ie_t0) | (with_reducible apply ie_t1) | (with_reducible apply ie_t2) | (with_reducible apply ie_t3) | (with_reducible apply ie_t4) | (with_reducible apply ie_t5) | (with_reducible apply ie_t6) | refine ⟨Nat.le_of_ble_eq_true rfl, ?_⟩ | refine ⟨_, rfl, ?_⟩))
/-! how a law asks need_program; words that differ -/
def refT : Vd → Txt
  | .ok => [103, 111, 111, 100]
  | .kind => [107, 105, 110, 100]
  | .prog => [112, 114, 111, 103, 114, 97, 109]
  | .name => [110, 97, 109, 101]
  | .twice => [116, 119, 105, 99, 101]
theorem Dw.gw {c : Cst} {st s : Store} (h : Dw c st) (g : Gw st s) : Dw c s := by
  obtain ⟨d, h0, a, e⟩ := h
  exact ⟨d, g.at h0, a, e⟩
theorem Gw.fr {st s : Store} (g : Gw st s) : Fr st s := by
  obtain ⟨os, rfl⟩ := g
  exact ⟨by simp, fun n _ hn => by rw [List.getElem?_append_left hn]⟩
theorem wd0 {c : Cst} (h : c.talk = 0) (k : Nat) : wd c k = repT [113] c.place.toNat ++ [97 + ((k : Int) + c.turn).toNat % 26] ++ repT [113] (c.size - c.place - 1).toNat := by
  unfold wd
  rw [if_neg (by rw [h]; simp)]
theorem wd_inj {c : Cst} (hc : Cok c) (h : c.talk = 0) {j k : Nat} (hj : j < 26) (hk : k < 26) (e : wd c j = wd c k) : j = k := by
  rw [wd0 h, wd0 h] at e
  have e2 := (List.append_inj e (by simp)).1
  have e3 := (List.append_inj e2 rfl).2
  simp only [List.cons.injEq, and_true] at e3
  have := hc.t1; have := hc.t2
  omega
theorem up_inj {a b : Txt} (ha : Word a) (hb : Word b) (e : up a = up b) : a = b := by
  have : ∀ {a b : Txt}, (∀ x ∈ a, 97 ≤ x) → (∀ x ∈ b, 97 ≤ x) → a.map (· - 32) = b.map (· - 32) → a = b := by
    intro a
    induction a with
    | nil => intro b _ _ e; cases b with | nil => rfl | cons _ _ => simp at e
    | cons x a ih =>
      intro b h1 h2 e
      cases b with
      | nil => simp at e
      | cons y b =>
        simp only [List.map_cons, List.cons.injEq] at e
        have := h1 x (by simp); have := h2 y (by simp)
        have e1 : x = y := by omega
        rw [e1, ih (fun x hx => h1 x (by simp [hx])) (fun x hx => h2 x (by simp [hx])) e.2]
  exact this (fun x hx => (ha.low x hx).1) (fun x hx => (hb.low x hx).1) e
theorem look_memK {k : Txt} {v : Val} : ∀ {ks : List Txt} {xs : List Val}, look k ks xs = some v → k ∈ ks
  | [], _, h => by simp [look] at h
  | _ :: _, [], h => by simp [look] at h
  | k' :: ks, x :: xs, h => by
    simp only [look] at h
    split at h
    · rename_i e; simp [e]
    · exact List.mem_cons_of_mem _ (look_memK h)
theorem wd_noSz {c : Cst} (hc : Cok c) (h : c.talk = 0) (k : Nat) : (look (wd c k) sizesK sizesX).isSome = false := by
  cases q : look (wd c k) sizesK sizesX with
  | none => rfl
  | some v =>
    exfalso
    have m := look_memK q
    have d : ∀ t ∈ sizesK, (113 : Nat) ∉ t ∧ t.length ≠ 1 := by decide
    obtain ⟨d1, d2⟩ := d _ m
    rw [wd0 h] at d1 d2
    obtain ⟨a1, a2⟩ := repT_q c.place.toNat
    obtain ⟨b1, b2⟩ := repT_q (c.size - c.place - 1).toNat
    have m : 113 ∈ repT [113] c.place.toNat ∨ 113 ∈ repT [113] (c.size - c.place - 1).toNat := by
      simp only [List.length_append, List.length_cons, List.length_nil, a1, b1] at d2
      rcases (by omega : 0 < c.place.toNat ∨ 0 < (c.size - c.place - 1).toNat) with q | q
      · left
        cases r : repT [113] c.place.toNat with
        | nil => rw [r] at a1; simp at a1; omega
        | cons x y => have := a2 x (by rw [r]; simp); simp [this]
      · right
        cases r : repT [113] (c.size - c.place - 1).toNat with
        | nil => rw [r] at b1; simp at b1; omega
        | cons x y => have := b2 x (by rw [r]; simp); simp [this]
    refine d1 ?_
    simp only [List.mem_append]
    rcases m with m | m
    · exact .inl (.inl m)
    · exact .inr m
theorem up_great {t : Txt} (h : Word t) : isWs greatT (up t) = true := by
  have h1 := h.len
  have h2 : 1 ≤ t.length := List.length_pos_iff.mpr h.ne
  have hl : (up t).length = t.length := by simp [up]
  simp only [isWs, hl, h1, h2, decide_true, Bool.true_and, List.all_eq_true, decide_eq_true_eq]
  intro x hx
  obtain ⟨y, hy, rfl⟩ := List.mem_map.mp hx
  have := h.low y hy
  have e : ∀ z, z < 26 → (65 + z) ∈ greatT := by decide
  have := e (y - 97) (by omega)
  rwa [show 65 + (y - 97) = y - 32 by omega] at this
/-- sorted words, all different -/
theorem sort_lt {ts : List Txt} (nd : ts.Nodup) : (sortT ts).Pairwise LtT := by
  have p := sortT_sorted ts
  have nd2 : (sortT ts).Nodup := (sortT_perm ts).nodup_iff.mpr nd
  have := p.and nd2
  refine this.imp fun {a b} ⟨h1, h2⟩ => ?_
  show ltT a b = true
  cases q : ltT a b with
  | true => rfl
  | false => exact (h2 (ltT_tri q h1)).elim
section
variable {p : Prg} (hw : FAt p 0 d_is_word) (hg : FAt p 1 d_good_fields) (hn : FAt p 2 d_need_kind) (hl : FAt p 3 d_look_through)
variable (hm : FAt p 5 d_must) (hpo : FAt p 4 d_parts_of)
variable (hS : FAt p 7 d_Scope_look) (hSp : FAt p 8 d_Scope_look_plain) (hSn : FAt p 9 d_Scope_look_new) (hSm : FAt p 10 d_Scope_look_name) (hSc : FAt p 11 d_Scope_look_call)
variable (hM : FAt p 12 d_Scope) (hI : FAt p 6 d_Scope___init__) (hnp : FAt p 13 d_need_pairs) (hnf : FAt p 14 d_need_function) (hng : FAt p 15 d_need_program)
variable {nS nM n1 n2 n3 n4 n5 n6 n7 : Txt} (gS : GAt p 0 (nS, .str smallT)) (gM : GAt p 2 (nM, .int 8)) (gZ : GAt p 3 (n1, .dct sizesK sizesX)) (gH : GAt p 4 (n2, .tup (headsT.map .str))) (gG : GAt p 5 (n3, .str signsT)) (gF : GAt p 6 (n4, .int 12)) (gP : GAt p 7 (n5, .int 12)) (gT : GAt p 8 (n6, .int (10 ^ 30))) (gR : GAt p 1 (n7, .str greatT))
variable (hrf : FAt p 20 d_law_refusal)
include hw hg hn hl hm hpo hS hSp hSn hSm hSc hM hI hnp hnf hng gS gM gZ gH gG gP gT gR gF hrf in
theorem refusal_ok (K : Nat) (fs : List Val) (d : Vd) (ks : List Txt) (xs : List Val) (st : Store) (h : progT fs = some (d, ks, xs)) (hp : ∀ f ∈ fs, puV 900 f = true) :
    Ret (callN p (K + 44) 20 [.lst fs] st) fun v s => v = .str (refT d) ∧ Gw st s := by
  refine call_of hrf rfl ?_
  simp only [d_law_refusal, List.map_cons, List.map_nil, List.length_cons, List.length_nil, List.cons_append, List.nil_append, Nat.reduceAdd, Nat.reduceSub, Nat.zero_add, Nat.add_zero, Nat.sub_self, Nat.sub_zero, List.replicate]
  refine t_seq (t_try ?_)
  array_mem_dec
  refine (prog_ok hw hg hn hl hm hpo hS hSp hSn hSm hSc hM hI hnp hnf hng gS gM gZ gH gG gF gP gT gR K fs d ks xs st h hp).impX (fun v s ⟨a1, a2, a3⟩ => ?_) (fun x s ⟨a1, a2, a3⟩ => ?_)
  · subst a1
    array_mem_dec
    exact ⟨rfl, a3⟩
  · subst a2
    cases d with
    | ok => exact (a1 rfl).elim
    | kind => exact FlP.mk ⟨rfl, a3⟩
    | prog => exact FlP.mk ⟨rfl, a3⟩
    | name => exact FlP.mk ⟨rfl, a3⟩
    | twice => exact FlP.mk ⟨rfl, a3⟩
end
section
variable {p : Prg} (hw : FAt p 0 d_is_word) (hg : FAt p 1 d_good_fields) (hn : FAt p 2 d_need_kind) (hl : FAt p 3 d_look_through)
variable {nS nM : Txt} (gS : GAt p 0 (nS, .str smallT)) (gM : GAt p 2 (nM, .int 8))
end
end Mi
namespace Mi
/-! kinds as deep as may be -/
abbrev chT : Val := .tup [.str kText]
abbrev chN : Val := .tup [.str kNum]
/-- so many deep about a leaf -/
def Nest (m : Nat) (lf : List Txt → Bool) (v : Val) : Prop := (∀ ls n (e : Int), m < n → 0 ≤ e → lookV n ls v e = some (decide (e + m ≤ 8) && lf ls)) ∧ puV (20 * m + 10) v = true
def lfOk : Val → List Txt → Bool
  | .tup [_, .str x], ls => decide (x ∈ ls)
  | _, _ => true
theorem lookV_one {n : Nat} {ls : List Txt} {e : Int} {ch : Val} {b : Bool} (h : lookC (lookV n ls) ls e ch = some b) (hb : b = true → e ≤ 8) :
    lookV (n + 1) ls (.tup [ch]) e = some b ∧ lookV (n + 1) ls (.tup [chN, ch]) e = some b ∧ lookV (n + 1) ls (.tup [ch, chT]) e = some b := by
  have e1 : lookC (lookV n ls) ls e chN = some true := rfl
  have e2 : lookC (lookV n ls) ls e chT = some true := rfl
  simp only [lookV, lookCs, h, e1, e2]
  by_cases q : 8 < e
  · have : b = false := by cases b with | false => rfl | true => have := hb rfl; omega
    subst this
    simp [q]
  · cases b <;> simp [q]
theorem nest_base {lf : Val} (h : lf = chN ∨ lf = chT ∨ ∃ x, lf = .tup [.str kLetter, .str x]) : Nest 0 (lfOk lf) (.tup [lf]) := by
  refine ⟨fun ls n e hn he => ?_, ?_⟩
  · obtain ⟨n, rfl⟩ : ∃ m, n = m + 1 := ⟨n - 1, by omega⟩
    have e1 : lookC (lookV n ls) ls e lf = some (lfOk lf ls) := by
      rcases h with rfl | rfl | ⟨x, rfl⟩ <;> rfl
    simp only [lookV, lookCs, e1]
    by_cases q : 8 < e
    · have q2 : ¬ e + ((0 : Nat) : Int) ≤ 8 := by omega
      simp only [q, q2]; simp
    · have q2 : e + ((0 : Nat) : Int) ≤ 8 := by omega
      simp only [q, q2]
      cases lfOk lf ls <;> simp
  · rcases h with rfl | rfl | ⟨x, rfl⟩ <;> rfl
theorem pairs_good : ∀ (qs : List (Txt × Val)) (b : Txt), (∀ q ∈ qs, Word q.1 ∧ LtT b q.1) → (qs.map (·.1)).Pairwise LtT → goodF (qs.map fun q => .tup [.str q.1, q.2]) b = some true
  | [], _, _, _ => rfl
  | q :: r, b, h, hp => by
    obtain ⟨h1, h2⟩ := h q (by simp)
    have h2 : ltT b q.1 = true := h2
    simp only [List.map_cons, List.pairwise_cons] at hp
    simp only [List.map_cons, goodF, word_small h1, h2, Bool.and_true, if_true]
    exact pairs_good r q.1 (fun u hu => ⟨(h u (by simp [hu])).1, hp.1 _ (List.mem_map.mpr ⟨u, hu, rfl⟩)⟩) hp.2
/-- a shape's fields: the kind at one place, texts at the others -/
theorem fields_look {n m : Nat} {ls : List Txt} {v : Val} {lf : List Txt → Bool} {e : Int} (hv : Nest m lf v) (hn : m < n) (he : 0 ≤ e) : ∀ (fs : List Val), (∀ f ∈ fs, ∃ t, f = .tup [.str t, v] ∨ f = .tup [.str t, .tup [chT]]) →
    ∃ b, lookFs (lookV n ls) e fs = some b ∧ ((∃ t, .tup [.str t, v] ∈ fs) → b = (decide (e + m ≤ 8) && lf ls)) ∧ (b = false → (decide (e + m ≤ 8) && lf ls) = false)
  | [], _ => ⟨true, rfl, fun ⟨_, h⟩ => by simp at h, nofun⟩
  | f :: r, h => by
    obtain ⟨b, hb, g1, g2⟩ := fields_look hv hn he r fun f hf => h f (by simp [hf])
    have hT : lookV n ls (.tup [chT]) e = some (decide (e ≤ 8)) := by
      have := (nest_base (lf := chT) (.inr (.inl rfl))).1 ls n e (by omega) he
      simpa [lfOk] using this
    have hV := hv.1 ls n e hn he
    obtain ⟨t, rfl | rfl⟩ := h f (by simp)
    · simp only [lookFs, hV]
      cases q : (decide (e + (m : Int) ≤ 8) && lf ls) with
      | false => exact ⟨false, rfl, fun _ => rfl, fun _ => rfl⟩
      | true =>
        have : b = true := by
          cases b with
          | true => rfl
          | false => have := g2 rfl; rw [q] at this; cases this
        subst this
        exact ⟨true, hb, fun _ => rfl, nofun⟩
    · simp only [lookFs, hT]
      by_cases q : e ≤ 8
      · simp only [q, decide_true]
        refine ⟨b, hb, fun ⟨u, hu⟩ => ?_, g2⟩
        rcases List.mem_cons.mp hu with hu | hu
        · simp only [Val.tup.injEq, List.cons.injEq, and_true, Val.str.injEq] at hu
          by_cases hr : ∃ t, Val.tup [.str t, v] ∈ r
          · exact g1 hr
          · -- the kind is a text itself
            have : lookV n ls v e = some true := by rw [hu.2, hT]; simp [q]
            rw [hV] at this
            have e2 := Option.some.inj this
            cases b with
            | true => exact e2.symm
            | false => exact (g2 rfl).symm
        · exact g1 ⟨u, hu⟩
      · have q2 : ¬ e + (m : Int) ≤ 8 := by omega
        simp only [q, q2, decide_false, Bool.false_and]
        exact ⟨false, rfl, fun _ => by trivial, fun _ => by trivial⟩
theorem nest_of {m : Nat} {lf : List Txt → Bool} {ch : Val} (hc : ∀ ls n (e : Int), m < n → 0 ≤ e → lookC (lookV n ls) ls e ch = some (decide (e + 1 + m ≤ 8) && lf ls)) (hp : puV (20 * m + 25) ch = true) :
    Nest (m + 1) lf (.tup [ch]) ∧ Nest (m + 1) lf (.tup [chN, ch]) ∧ Nest (m + 1) lf (.tup [ch, chT]) := by
  have key : ∀ ls n (e : Int), m + 1 < n → 0 ≤ e → lookV n ls (.tup [ch]) e = some (decide (e + (m + 1 : Nat) ≤ 8) && lf ls) ∧ lookV n ls (.tup [chN, ch]) e = some (decide (e + (m + 1 : Nat) ≤ 8) && lf ls) ∧ lookV n ls (.tup [ch, chT]) e = some (decide (e + (m + 1 : Nat) ≤ 8) && lf ls) := by
    intro ls n e hn he
    obtain ⟨n, rfl⟩ : ∃ m, n = m + 1 := ⟨n - 1, by omega⟩
    rw [show e + ((m + 1 : Nat) : Int) = e + 1 + m by omega]
    refine lookV_one (hc ls n e (by omega) he) fun z => ?_
    simp only [Bool.and_eq_true, decide_eq_true_eq] at z
    omega
  have pu : puV (20 * (m + 1) + 10) (.tup [ch]) = true ∧ puV (20 * (m + 1) + 10) (.tup [chN, ch]) = true ∧ puV (20 * (m + 1) + 10) (.tup [ch, chT]) = true := by
    have hp1 : ∀ k, puV (20 * m + 25 + k) ch = true := puV_le hp
    have hs : ∀ k w, puV (k + 5) (.tup [.str w]) = true := fun k w => rfl
    have p0 : puV (20 * m + 28) ch = true := hp1 3
    have p1 : puV (20 * m + 27) ch = true := hp1 2
    have e0 : 20 * (m + 1) + 10 = 20 * m + 29 + 1 := by omega
    rw [e0]
    refine ⟨?_, ?_, ?_⟩
    · show (puV (20 * m + 28) ch && true) = true
      rw [p0]; rfl
    · show (true && (puV (20 * m + 27) ch && true)) = true
      rw [p1]; rfl
    · show (puV (20 * m + 28) ch && (true && true)) = true
      rw [p0]; rfl
  exact ⟨⟨fun ls n e hn he => (key ls n e hn he).1, pu.1⟩, ⟨fun ls n e hn he => (key ls n e hn he).2.1, pu.2.1⟩, ⟨fun ls n e hn he => (key ls n e hn he).2.2, pu.2.2⟩⟩
end Mi
namespace Mi
abbrev kN : Val := .tup [chN]
theorem lfOk_le {lf : Val} {v : Val} {m : Nat} (h : Nest m (lfOk lf) v) (hm : m < 20) (ls : List Txt) : kindD ls v = some (if (decide (m ≤ 8) && lfOk lf ls) = true then .ok else .kind) := by
  unfold kindD
  rw [h.1 ls 20 0 hm (by decide)]
  have : decide ((0 : Int) + (m : Int) ≤ 8) = decide (m ≤ 8) := by
    by_cases q : m ≤ 8
    · rw [decide_eq_true q, decide_eq_true (by omega)]
    · rw [decide_eq_false q, decide_eq_false (by omega)]
  rw [this]; rfl
def Vd.of (b : Bool) : Vd := if b then .ok else .kind
theorem seq_okL {b : Option Vd} : seqD (some .ok) b = b := rfl
theorem kN_ok (ls : List Txt) : kindD ls kN = some .ok := rfl
theorem pairs_qs {sg : Txt} {qs : List (Txt × Val)} (hu : ∀ q ∈ qs, isWs sg q.1 = true) (nd : (qs.map (·.1)).Nodup) (hl : qs.length ≤ 500) : pairsT sg (.tup (qs.map fun q => .tup [.str q.1, q.2])) = some (.ok, qs.map (·.1)) := by
  have key : ∀ (r : List (Txt × Val)) (acc : List Txt), (∀ q ∈ r, isWs sg q.1 = true) → (r.map (·.1)).Nodup → (∀ q ∈ r, q.1 ∉ acc) → pairsD sg (r.map fun q => .tup [.str q.1, q.2]) acc = some (.ok, acc ++ r.map (·.1)) := by
    intro r
    induction r with
    | nil => intro acc _ _ _; simp [pairsD]
    | cons u r ih =>
      intro acc h1 h2 h3
      have hu := h1 u (by simp)
      simp only [List.map_cons, pairsD, isWV, hu, if_neg (h3 u (by simp))]
      rw [List.map_cons] at h2
      obtain ⟨h4, h5⟩ := List.nodup_cons.mp h2
      rw [ih (acc ++ [u.1]) (fun x hx => h1 x (by simp [hx])) h5 (fun x hx z => ?_)]
      · simp
      · rcases List.mem_append.mp z with z | z
        · exact h3 x (by simp [hx]) z
        · simp at z; exact h4 (z ▸ List.mem_map.mpr ⟨x, hx, rfl⟩)
  simp only [pairsT, List.length_map, if_pos hl]
  have := key qs [] hu nd (by simp)
  simpa using this
theorem bnds_num {ls us : List Txt} {r : List Val} : bndsD ls ((us.map fun u => .tup [.str u, kN]) ++ r) = bndsD ls r := by
  induction us with
  | nil => rfl
  | cons u r ih => simp only [List.map_cons, List.cons_append, bndsD, kN_ok, seqD]; exact ih
theorem put_s {s : Store} {xs : List Val} {k : Nat} {v : Val} (h : k < xs.length) : putV (.loc s.length) (.int k) v (s ++ [.lst xs]) = some (s ++ [.lst (xs.set k v)]) := by
  simp only [putV, List.getElem?_concat_length]
  have : L2.ixN xs.length (k : Int) = some k := by simp [L2.ixN, h]
  rw [this]
  simp
theorem tup_s {s : Store} {xs : List Val} : fnV (s ++ [.lst xs]) .tuple [.loc s.length] = some (.tup xs) := by
  show (asL (s ++ [.lst xs]) (.loc s.length)).map Val.tup = _
  simp only [asL, List.getElem?_concat_length]; rfl
section
variable {p : Prg} {c : Cst} (hc : Cok c) (ht : c.talk = 0) (hp : FAt p 17 d_law_taken) (hwd : FAt p 18 d_law_word) 
/-- where a kind stands in a program -/
def placedL (c : Cst) (us : List Txt) (v : Val) (o : Val) : Nat → List Val
  | 0 => [.str (wd c 20), .tup (us.map (fun u => .tup [.str u, kN]) ++ [.tup [.str (up (wd c 9)), v]]), .tup [], kN, o]
  | 1 => [.str (wd c 20), .tup (us.map fun u => .tup [.str u, kN]), .tup [.tup [.str (wd c 10), kN], .tup [.str (wd c 11), v]], kN, o]
  | 2 => [.str (wd c 20), .tup (us.map fun u => .tup [.str u, kN]), .tup [], v, o]
  | 3 => [.str (wd c 20), .tup (us.map fun u => .tup [.str u, kN]), .tup [], kN, .tup [.str wRow, .tup [o, .tup [.str wNorow, v]]]]
  | 4 => [.str (wd c 20), .tup (us.map fun u => .tup [.str u, kN]), .tup [], kN, .tup [.str wRow, .tup [o, .tup [.str wNobook, v]]]]
  | 5 => [.str (wd c 20), .tup (us.map fun u => .tup [.str u, kN]), .tup [], kN, .tup [.str wRow, .tup [o, .tup [.str wFold, .str (wd c 1), .tup [.str wNorow, kN], .str (wd c 2), v, o, o]]]]
  | _ => [.str (wd c 20), .tup (us.map fun u => .tup [.str u, kN]), .tup [], kN, .tup [.str wRow, .tup [o, .tup [.str wCall, .str (wd c 21), .tup [v], .tup []]]]]
abbrev earlV (c : Cst) (o : Val) : Val := .tup [.str (wd c 21), .tup [.tup [.str [65], kN]], .tup [], kN, o]
end
end Mi
namespace Mi
abbrev oneV (j : Nat) : Val := .tup [.str wNum, .int j]
theorem one_ok {eks : List Txt} {exs : List Val} {ls names : List Txt} {n j : Nat} {d : Int} (hj : j < 1000) (hd : d ≤ 12) : lookP eks exs ls (n + 1) (oneV j) names d = some .ok := by
  have n12 : ¬ 12 < d := by omega
  have hz : szOf wNum = some 2 := rfl
  have hp : partsOf wNum [.int j] = some [] := rfl
  have hc : chkD eks exs ls names wNum [.int j] = some .ok := by
    show numD (.int j) = some .ok
    simp only [numD]
    rw [if_pos ⟨by omega, by omega⟩]
  simp only [lookP, n12, if_false, hz, hp, hc]
  rfl
theorem row2_ok {eks : List Txt} {exs : List Val} {ls names : List Txt} {n j : Nat} {d : Int} {x : Val} {r : Option Vd} (hj : j < 1000) (hd : d + 1 ≤ 12) (hx : lookP eks exs ls (n + 1) x names (d + 1) = r) : lookP eks exs ls (n + 2) (.tup [.str wRow, .tup [oneV j, x]]) names d = r := by
  have n12 : ¬ 12 < d := by omega
  have hz : szOf wRow = some 2 := rfl
  have hp : partsOf wRow [.tup [oneV j, x]] = some [(oneV j, []), (x, [])] := rfl
  have hc : chkD eks exs ls names wRow [.tup [oneV j, x]] = some .ok := rfl
  have h1 := one_ok (eks := eks) (exs := exs) (ls := ls) (names := names) (n := n) (j := j) (d := d + 1) hj hd
  rw [lookP]
  simp only [n12, if_false, hz, hp, hc]
  simp only [seqD, lookPs, List.append_nil, h1, hx, List.length_cons, List.length_nil, if_true]
  cases r with
  | none => rfl
  | some d => cases d <;> rfl
theorem nor_ok {eks : List Txt} {exs : List Val} {ls names : List Txt} {n : Nat} {d : Int} {x : Val} {D : Vd} {w : Txt} (hw : w = wNorow ∨ w = wNobook) (hd : d ≤ 12) (hx : kindD ls x = some D) : lookP eks exs ls (n + 1) (.tup [.str w, x]) names d = some D := by
  have n12 : ¬ 12 < d := by omega
  have hz : szOf w = some 2 := by rcases hw with rfl | rfl <;> rfl
  have hp : partsOf w [x] = some [] := by rcases hw with rfl | rfl <;> rfl
  have hc : chkD eks exs ls names w [x] = some D := by rcases hw with rfl | rfl <;> exact hx
  simp only [lookP, n12, if_false, hz, hp, hc]
  cases D <;> rfl
theorem fold_ok {eks : List Txt} {exs : List Val} {ls names : List Txt} {n j : Nat} {d : Int} {x : Val} {D : Vd} {a b : Txt} (ha : isWs smallT a = true) (hb : isWs smallT b = true) (ne : a ≠ b) (hj : j < 1000) (hd : d + 1 ≤ 12) (hx : kindD ls x = some D) :
    lookP eks exs ls (n + 2) (.tup [.str wFold, .str a, .tup [.str wNorow, kN], .str b, x, oneV j, oneV j]) names d = some D := by
  have n12 : ¬ 12 < d := by omega
  have hz : szOf wFold = some 7 := rfl
  have hp : partsOf wFold [.str a, .tup [.str wNorow, kN], .str b, x, oneV j, oneV j] = some [(.tup [.str wNorow, kN], []), (oneV j, []), (oneV j, [a, b])] := rfl
  have hc : chkD eks exs ls names wFold [.str a, .tup [.str wNorow, kN], .str b, x, oneV j, oneV j] = some D := by
    unfold chkD
    rw [if_neg (by decide), if_pos (by decide)]
    have e : (a == b) = false := beq_false_of_ne ne
    simp [newN, isWV, ha, hb, mD, seqD, eqS, e, hx]
  have h1 : ∀ nm, lookP eks exs ls (n + 1) (oneV j) nm (d + 1) = some .ok := fun nm => one_ok hj hd
  have h2 : ∀ nm, lookP eks exs ls (n + 1) (.tup [.str wNorow, kN]) nm (d + 1) = some .ok := fun nm => nor_ok (.inl rfl) hd rfl
  rw [lookP]
  simp only [n12, if_false, hz, hp, hc]
  simp only [lookPs, h1, h2, List.length_cons, List.length_nil, if_true]
  cases D <;> rfl
theorem call1_ok {f : Txt} {fv q0 q1 q2 : Val} {ls names : List Txt} {n : Nat} {a1 : Val} {d : Int} {x : Val} {D : Vd} (hf : fv = .tup [q0, .tup [a1], .tup [], q1, q2]) (hd : d ≤ 12) (hx : kindD ls x = some D) :
    lookP [f] [fv] ls (n + 1) (.tup [.str wCall, .str f, .tup [x], .tup []]) names d = some D := by
  subst hf
  have n12 : ¬ 12 < d := by omega
  have hz : szOf wCall = some 4 := rfl
  have hp : partsOf wCall [.str f, .tup [x], .tup []] = some [] := rfl
  have hc : chkD [f] [.tup [q0, .tup [a1], .tup [], q1, q2]] ls names wCall [.str f, .tup [x], .tup []] = some D := by
    unfold chkD
    rw [if_neg (by decide), if_neg (by decide), if_pos (by decide)]
    simp only [callD, look, if_true, List.length_cons, List.length_nil, and_self, kindsD, hx]
    cases D <;> rfl
  rw [lookP]
  simp only [n12, if_false, hz, hp, hc]
  cases D <;> rfl
theorem tail_nil {eks : List Txt} {exs : List Val} {ls : List Txt} {rs bd : Val} : tailD eks exs ls (.tup []) rs bd = seqD (kindD ls rs) (lookP eks exs ls 14 bd [] 1) := rfl
theorem tail_one {eks : List Txt} {exs : List Val} {ls : List Txt} {j : Nat} {k : Val} (hj : j < 1000) : tailD eks exs ls (.tup []) k (oneV j) = kindD ls k := by
  rw [tail_nil, one_ok (n := 13) hj (by decide)]
  cases kindD ls k with
  | none => rfl
  | some d => cases d <;> rfl
theorem pairs_A : pairsT greatT (.tup [.tup [.str [65], kN]]) = some (.ok, [[65]]) := rfl
theorem fun_of {eks : List Txt} {exs : List Val} {nm lt pr rs bd : Val} {ls : List Txt} {bs : List Val} {D : Vd} (h1 : headD eks exs nm = some .ok) (h2 : pairsT greatT lt = some (.ok, ls)) (h3 : lt = .tup bs) (h4 : bndsD [] bs = some .ok) (h5 : tailD eks exs ls pr rs bd = some D) :
    funD eks exs (.tup [nm, lt, pr, rs, bd]) = some D := by
  subst h3
  simp only [funD, h1, h2, h4, seqD]
  exact h5
theorem earl_tail {j : Nat} (hj : j < 9) : tailD [] [] [[65]] (.tup []) kN (oneV j) = some .ok := by
  rw [tail_one (by omega)]
  exact kN_ok _
theorem earl_bnds : bndsD [] [.tup [.str [65], kN]] = some .ok := rfl
theorem earl_fun {c : Cst} {j : Nat} (hj : j < 9) (hd1 : headD [] [] (.str (wd c 21)) = some .ok) : funD [] [] (earlV c (oneV j)) = some .ok := fun_of hd1 pairs_A rfl earl_bnds (earl_tail hj)
theorem earl_head {c : Cst} (hc : Cok c) (ht : c.talk = 0) : headD [] [] (.str (wd c 21)) = some .ok := by
  have := wd_noSz hc ht 21
  have sm : ∀ k, isWs smallT (wd c k) = true := fun k => word_small (wd_word hc k)
  simp [headD, isWV, sm, this, look]
theorem tail_ps {eks : List Txt} {exs : List Val} {ls ns : List Txt} {j : Nat} {ps : List Val} (hj : j < 1000) (h : pairsT smallT (.tup ps) = some (.ok, ns)) : tailD eks exs ls (.tup ps) kN (oneV j) = bndsD ls ps := by
  simp only [tailD, h]
  rw [kN_ok, one_ok (n := 13) hj (by decide)]
  cases bndsD ls ps with
  | none => rfl
  | some d => cases d <;> rfl
theorem bnds_two {ls : List Txt} {a b v : Val} : bndsD ls [.tup [a, kN], .tup [b, v]] = kindD ls v := by
  simp only [bndsD, kN_ok, seqD]
  cases kindD ls v with
  | none => rfl
  | some d => cases d <;> rfl
theorem placed_prog {c : Cst} (hc : Cok c) (ht : c.talk = 0) {us : List Txt} {v lf : Val} {m j w : Nat} (hm : m < 20) (hv : Nest m (lfOk lf) v) (hus : us.length ≤ 3) (hu : ∀ u ∈ us, ∃ k, k < 4 ∧ u = up (wd c k)) (nd : us.Nodup) (hj : j < 9) (hw : w < 7) :
    ∃ ks xs, progT [earlV c (oneV j), .tup (placedL c us v (oneV j) w)] = some (if (decide (m ≤ 8) && lfOk lf (if w = 0 then [] else us)) = true then .ok else .kind, ks, xs) := by
  have sm : ∀ k, isWs smallT (wd c k) = true := fun k => word_small (wd_word hc k)
  have gr : ∀ u ∈ us, isWs greatT u = true := fun u h => by obtain ⟨k, _, rfl⟩ := hu u h; exact up_great (wd_word hc k)
  have f1 : funD [] [] (earlV c (oneV j)) = some .ok := earl_fun hj (earl_head hc ht)
  have ne : wd c 20 ≠ wd c 21 := fun e => by have := wd_inj hc ht (by decide) (by decide) e; omega
  have hd2 : headD [wd c 21] [earlV c (oneV j)] (.str (wd c 20)) = some .ok := by
    have := wd_noSz hc ht 20
    simp [headD, isWV, sm, this, look, ne.symm]
  have hbase : ∀ D, funD [wd c 21] [earlV c (oneV j)] (.tup (placedL c us v (oneV j) w)) = some D → ∃ ks xs, progT [earlV c (oneV j), .tup (placedL c us v (oneV j) w)] = some (D, ks, xs) := by
    intro D hD
    have hsh : ∃ t r, placedL c us v (oneV j) w = .str t :: r := by
      match w with
      | 0 => exact ⟨_, _, rfl⟩
      | 1 => exact ⟨_, _, rfl⟩
      | 2 => exact ⟨_, _, rfl⟩
      | 3 => exact ⟨_, _, rfl⟩
      | 4 => exact ⟨_, _, rfl⟩
      | 5 => exact ⟨_, _, rfl⟩
      | _ + 6 => exact ⟨_, _, rfl⟩
    obtain ⟨t, r, e⟩ := hsh
    rw [e] at hD ⊢
    have : progT [earlV c (oneV j), .tup (.str t :: r)] = progD [.tup (.str t :: r)] [wd c 21] [earlV c (oneV j)] := by
      show progD [earlV c (oneV j), .tup (.str t :: r)] [] [] = _
      simp only [progD, f1]
      rfl
    rw [this]
    simp only [progD, hD]
    cases D <;> exact ⟨_, _, rfl⟩
  refine hbase _ ?_
  have hpl : pairsT greatT (.tup (us.map fun u => .tup [.str u, kN])) = some (.ok, us) := by
    have := pairs_qs (sg := greatT) (qs := us.map fun u => (u, kN)) (fun q hq => by obtain ⟨u, h, rfl⟩ := List.mem_map.mp hq; exact gr u h) (by rw [List.map_map]; simpa [Function.comp_def] using nd) (by simp; omega)
    rw [List.map_map, List.map_map] at this
    simpa [Function.comp_def] using this
  have hbn : bndsD [] (us.map fun u => .tup [.str u, kN]) = some .ok := by
    have := bnds_num (ls := []) (us := us) (r := [])
    rw [List.append_nil] at this
    rw [this]; rfl
  have wrap : ∀ {pr rs bd : Val} {D : Vd}, tailD [wd c 21] [earlV c (oneV j)] us pr rs bd = some D → funD [wd c 21] [earlV c (oneV j)] (.tup [.str (wd c 20), .tup (us.map fun u => .tup [.str u, kN]), pr, rs, bd]) = some D := by
    intro pr rs bd D h
    simp only [funD, hd2, seqD, hpl, hbn]
    exact h
  have hk := lfOk_le hv hm
  have body : ∀ {bd : Val} {D : Vd}, lookP [wd c 21] [earlV c (oneV j)] us 14 bd [] 1 = some D → tailD [wd c 21] [earlV c (oneV j)] us (.tup []) kN bd = some D := by
    intro bd D h
    rw [tail_nil, kN_ok, h]; rfl
  match w, hw with
  | 0, _ =>
    rw [if_pos rfl]
    have nup : up (wd c 9) ∉ us := fun h => by
      obtain ⟨k, hk, e⟩ := hu _ h
      have := wd_inj hc ht (by decide) (by omega) (up_inj (wd_word hc 9) (wd_word hc k) e)
      omega
    have hp2 : pairsT greatT (.tup ((us.map fun u => .tup [.str u, kN]) ++ [.tup [.str (up (wd c 9)), v]])) = some (.ok, us ++ [up (wd c 9)]) := by
      have := pairs_qs (sg := greatT) (qs := (us.map fun u => (u, kN)) ++ [(up (wd c 9), v)]) (fun q hq => by
        rcases List.mem_append.mp hq with hq | hq
        · obtain ⟨u, h, rfl⟩ := List.mem_map.mp hq; exact gr u h
        · simp at hq; subst hq; exact up_great (wd_word hc 9)) (by
        rw [List.map_append, List.map_map]
        simp only [Function.comp_def, List.map_id', List.map_cons, List.map_nil]
        rw [List.nodup_append]
        exact ⟨nd, by simp, fun a ha b hb e => nup (by simp at hb; subst hb; subst e; exact ha)⟩) (by simp; omega)
      rw [List.map_append, List.map_append, List.map_map, List.map_map] at this
      simpa [Function.comp_def] using this
    have hb2 : bndsD [] ((us.map fun u => .tup [.str u, kN]) ++ [.tup [.str (up (wd c 9)), v]]) = some (if (decide (m ≤ 8) && lfOk lf []) = true then .ok else .kind) := by
      rw [bnds_num]
      show seqD (kindD [] v) (some .ok) = _
      rw [hk []]
      cases (decide (m ≤ 8) && lfOk lf []) <;> rfl
    show funD _ _ (.tup [.str (wd c 20), .tup ((us.map fun u => .tup [.str u, kN]) ++ [.tup [.str (up (wd c 9)), v]]), .tup [], kN, oneV j]) = _
    have t2 : tailD [wd c 21] [earlV c (oneV j)] (us ++ [up (wd c 9)]) (.tup []) kN (oneV j) = some .ok := by
      rw [tail_one (by omega)]
      exact kN_ok _
    simp only [funD, hd2, seqD, hp2, hb2, t2]
    cases (decide (m ≤ 8) && lfOk lf []) <;> rfl
  | 1, _ =>
    refine wrap ?_
    have n10 : wd c 10 ≠ wd c 11 := fun e => by have := wd_inj hc ht (by decide) (by decide) e; omega
    have hp2 : pairsT smallT (.tup [.tup [.str (wd c 10), kN], .tup [.str (wd c 11), v]]) = some (.ok, [wd c 10, wd c 11]) :=
      pairs_qs (sg := smallT) (qs := [(wd c 10, kN), (wd c 11, v)]) (by simp [sm]) (by simp [n10]) (by simp)
    rw [tail_ps (by omega) hp2, bnds_two, hk us]
    rfl
  | 2, _ =>
    refine wrap ?_
    rw [tail_one (by omega), hk us]
    rfl
  | 3, _ => exact wrap (body (row2_ok (n := 12) (by omega) (by decide) (nor_ok (.inl rfl) (by decide) (hk us))))
  | 4, _ => exact wrap (body (row2_ok (n := 12) (by omega) (by decide) (nor_ok (.inr rfl) (by decide) (hk us))))
  | 5, _ =>
    have n12 : wd c 1 ≠ wd c 2 := fun e => by have := wd_inj hc ht (by decide) (by decide) e; omega
    exact wrap (body (row2_ok (n := 12) (by omega) (by decide) (fold_ok (n := 11) (sm 1) (sm 2) n12 (by omega) (by decide) (hk us))))
  | 6, _ => exact wrap (body (row2_ok (n := 12) (by omega) (by decide) (call1_ok rfl (by decide) (hk us))))
theorem pm {a b : Nat} {v : Val} (h : puV a v = true) (l : a ≤ b) : puV b v = true := by
  obtain ⟨m, rfl⟩ := Nat.exists_eq_add_of_le l
  exact puV_le h m
theorem puT {n b : Nat} {xs : List Val} (h : ∀ x ∈ xs, puV b x = true) (hn : b + xs.length + 2 ≤ n) : puV n (.tup xs) = true := by
  obtain ⟨k, rfl⟩ : ∃ k, n = k + 1 := ⟨n - 1, by omega⟩
  show puL k xs = true
  have := puL_of h
  obtain ⟨m, hm⟩ := Nat.exists_eq_add_of_le (show b + xs.length + 1 ≤ k by omega)
  rw [hm]
  exact puL_le this m
theorem placed_pu {c : Cst} {us : List Txt} {v : Val} {j w : Nat} {b : Nat} (hv : puV b v = true) (hb : b ≤ 400) (hus : us.length ≤ 3) : ∀ f ∈ [earlV c (oneV j), .tup (placedL c us v (oneV j) w)], puV 900 f = true := by
  have nl : ∀ x ∈ ([] : List Val), puV 600 x = true := by simp
  have hv4 : puV 400 v = true := pm hv hb
  have ho : puV 400 (oneV j) = true := rfl
  have hk : puV 400 kN = true := rfl
  have pk : ∀ t, puV 450 (.tup [.str t, v]) = true := fun t => puT (b := 400) (by simp only [List.forall_mem_cons]; exact ⟨rfl, hv4, by simp⟩) (by simp)
  have pus : puV 600 (.tup (us.map fun u => .tup [.str u, kN])) = true := puT (b := 450) (fun x hx => by obtain ⟨u, _, rfl⟩ := List.mem_map.mp hx; rfl) (by simp; omega)
  have bdp : ∀ x, puV 500 x = true → puV 600 (.tup [.str wRow, .tup [oneV j, x]]) = true := fun x hx =>
    puT (b := 550) (by simp only [List.forall_mem_cons]; exact ⟨rfl, puT (b := 500) (by simp only [List.forall_mem_cons]; exact ⟨rfl, hx, by simp⟩) (by simp), by simp⟩) (by simp)
  have h4 : ∀ {x}, puV 400 x = true → puV 600 x = true := fun h => pm h (by decide)
  have hnor : ∀ t, puV 500 (.tup [.str t, v]) = true := fun t => pm (pk t) (by decide)
  simp only [List.forall_mem_cons]
  refine ⟨rfl, ?_, fun _ h => nomatch h⟩
  match w with
  | 0 =>
    refine puT (b := 600) ?_ (by simp [placedL])
    simp only [placedL, List.forall_mem_cons]
    refine ⟨rfl, puT (b := 450) (fun x hx => ?_) (by simp; omega), rfl, h4 hk, h4 ho, fun _ h => nomatch h⟩
    rcases List.mem_append.mp hx with hx | hx
    · obtain ⟨u, _, rfl⟩ := List.mem_map.mp hx; rfl
    · simp at hx; subst hx; exact pk _
  | 1 =>
    refine puT (b := 600) ?_ (by simp [placedL])
    simp only [placedL, List.forall_mem_cons]
    exact ⟨rfl, pus, puT (b := 450) (by simp only [List.forall_mem_cons]; exact ⟨rfl, pk _, by simp⟩) (by simp), h4 hk, h4 ho, fun _ h => nomatch h⟩
  | 2 =>
    refine puT (b := 600) ?_ (by simp [placedL])
    simp only [placedL, List.forall_mem_cons]
    exact ⟨rfl, pus, rfl, h4 hv4, h4 ho, fun _ h => nomatch h⟩
  | 3 =>
    refine puT (b := 600) ?_ (by simp [placedL])
    simp only [placedL, List.forall_mem_cons]
    exact ⟨rfl, pus, rfl, h4 hk, bdp _ (hnor _), fun _ h => nomatch h⟩
  | 4 =>
    refine puT (b := 600) ?_ (by simp [placedL])
    simp only [placedL, List.forall_mem_cons]
    exact ⟨rfl, pus, rfl, h4 hk, bdp _ (hnor _), fun _ h => nomatch h⟩
  | 5 =>
    refine puT (b := 600) ?_ (by simp [placedL])
    simp only [placedL, List.forall_mem_cons]
    exact ⟨rfl, pus, rfl, h4 hk, bdp _ (puT (b := 450) (by simp only [List.forall_mem_cons]; exact ⟨rfl, rfl, rfl, rfl, pm hv4 (by decide), rfl, rfl, by simp⟩) (by simp)), fun _ h => nomatch h⟩
  | _ + 6 =>
    refine puT (b := 600) ?_ (by simp [placedL])
    simp only [placedL, List.forall_mem_cons]
    exact ⟨rfl, pus, rfl, h4 hk, bdp _ (puT (b := 450) (by simp only [List.forall_mem_cons]; exact ⟨rfl, rfl, puT (b := 400) (by simp only [List.forall_mem_cons]; exact ⟨hv4, by simp⟩) (by simp), rfl, by simp⟩) (by simp)), fun _ h => nomatch h⟩
end Mi
namespace Mi
local macro_rules | `(tactic| array_mem_dec) => `(tactic| repeat (first | (with_reducible apply t_seq) | (with_reducible apply t_skip) | (with_reducible apply t_asg) | (with_reducible apply t_ret) | (with_reducible apply t_expr) | (with_reducible apply t_put) | (with_reducible apply t_ite) | (with_reducible apply t_for) | (with_reducible apply t_asgT) | (with_reducible apply t_setf) | (with_reducible apply t_raise) | (with_reducible apply t_retN) | (with_reducible apply t_brk) | (with_reducible apply t_cont) | ((with_reducible apply v_var); rfl) | ((with_reducible apply b_var); rfl) | ((with_reducible apply i_var); rfl) | ((with_reducible apply v_glb); first | assumption | rfl) | (with_reducible apply v_fld) | (with_reducible apply v_meth) | (with_reducible apply b_fld) | (with_reducible apply b_meth) | (with_reducible apply i_fld) | (with_reducible apply i_meth) | (with_reducible apply v_lit) | (with_reducible apply v_ix) | (with_reducible apply v_bin) | (with_reducible apply v_cmp) | (with_reducible apply v_call) | (with_reducible apply v_tup) | (with_reducible apply v_lst) | (with_reducible apply v_new) | (with_reducible apply v_fn) | (with_reducible apply v_isi) | (with_reducible apply v_mt) | (with_reducible apply v_and) | (with_reducible apply v_or) | (with_reducible apply v_not) | (with_reducible apply v_ite) | (with_reducible apply v_neg) | (with_reducible apply v_chain) | (with_reducible apply v_isN) | (with_reducible apply v_isB) | (with_reducible apply v_lc) | (with_reducible apply a_cons) | (with_reducible apply a_nil) | (with_reducible apply b_cmp) | (with_reducible apply b_and) | (with_reducible apply b_or) | (with_reducible apply b_not) | (with_reducible apply b_call) | (with_reducible apply b_isi) | (with_reducible apply b_lit) | (with_reducible apply b_isN) | (with_reducible apply b_isB) | (with_reducible apply b_chain) | (with_reducible apply b_mt) | (with_reducible apply b_fn) | (with_reducible apply i_rng) | (with_reducible apply i_ix) | (with_reducible apply i_fn) | (with_reducible apply i_call) | (with_reducible apply i_bin) | (with_reducible apply i_lst) | (with_reducible apply i_sortK) | (with_reducible apply i_tup) | (with_reducible apply i_lc) | (with_reducible apply v_dcpy) | (with_reducible apply v_lnew) | (with_reducible apply v_dget) | (with_reducible apply v_kin) | (with_reducible apply v_kix) | (with_reducible apply b_kin) | (with_reducible apply ie_t0) | (with_reducible apply ie_t1) | (with_reducible apply ie_t2) | (with_reducible apply ie_t3) | (with_reducible apply ie_t4) | (with_reducible apply ie_t5) | (with_reducible apply ie_t6) | refine ⟨Nat.le_of_ble_eq_true rfl, ?_⟩ | refine ⟨_, rfl, ?_⟩))
/-! parts as deep as may be -/
def ifs (l : List (Txt × Nat)) (w : Txt) : Nat := match l with
  | [] => 0
  | (k, n) :: r => if k = w then n else ifs r w
def wordsN : List (Txt × Nat) := [(wRow, 3), (wShape, 3), (wGet, 1), (wSize, 1), ([112, 108, 117, 115], 2), ([109, 105, 110, 117, 115], 2), ([106, 111, 105, 110], 2), ([112, 117, 115, 104], 2), ([97, 116], 3), ([112, 117, 116], 3), ([108, 111, 111, 107], 3), (wLet, 2), (wEach, 2), ([105, 102], 4), (wFold, 3), (wIs, 2), (wHas, 2), (wCall, 3)]
def mkV (c : Cst) (e p0 w : Txt) (xs : List Val) : Val :=
  if w = wRow then .tup [.str w, .tup xs] else if w = wGet then .tup [.str w, (xs[0]?).getD .non, .str (wd c 5)]
  else if w = wShape then .tup [.str w, .tup ((List.range 3).map fun k => .tup [.str (((sortT ((List.range 3).map (wd c)))[k]?).getD []), (xs[k]?).getD .non])]
  else if w = wLet ∨ w = wEach then .tup ([.str w, .str (wd c 5)] ++ xs)
  else if w = wFold then .tup [.str w, .str (wd c 5), (xs[0]?).getD .non, .str (wd c 6), kN, (xs[1]?).getD .non, (xs[2]?).getD .non]
  else if w = wIs ∨ w = wHas then .tup ([.str w, .str p0, if w = wIs then .str wRow else .str (wd c 5)] ++ xs)
  else if w = wCall then .tup [.str wCall, .str e, .tup [], .tup xs] else .tup (.str w :: xs)
def GK : List Txt := [[103, 101, 116], [115, 105, 122, 101], [114, 111, 119], [115, 104, 97, 112, 101], [97, 116], [112, 117, 116], [108, 111, 111, 107], [105, 102]]
def GX : List Val := [.int 1, .int 1, .int 3, .int 3, .int 3, .int 3, .int 3, .int 4]
theorem w51_rng : ∀ q ∈ wordsN, 1 ≤ q.2 ∧ q.2 ≤ 4 := by decide
theorem w51_look {w : Txt} {n : Nat} (h : (w, n) ∈ wordsN) : (look w GK GX).getD (.int 2) = .int (if w = wFold ∨ w = wCall then ((2 : Nat) : Int) else ((n : Nat) : Int)) := by
  simp only [wordsN, List.mem_cons, Prod.mk.injEq, List.not_mem_nil, or_false] at h
  rcases h with ⟨rfl, rfl⟩ | ⟨rfl, rfl⟩ | ⟨rfl, rfl⟩ | ⟨rfl, rfl⟩ | ⟨rfl, rfl⟩ | ⟨rfl, rfl⟩ | ⟨rfl, rfl⟩ | ⟨rfl, rfl⟩ | ⟨rfl, rfl⟩ | ⟨rfl, rfl⟩ | ⟨rfl, rfl⟩ | ⟨rfl, rfl⟩ | ⟨rfl, rfl⟩ | ⟨rfl, rfl⟩ | ⟨rfl, rfl⟩ | ⟨rfl, rfl⟩ | ⟨rfl, rfl⟩ | ⟨rfl, rfl⟩ <;> rfl
theorem w51_fix : ∀ q ∈ wordsN, (q.1 = wFold ∨ q.1 = wCall → q.2 = 3) ∧ (q.1 = wRow → q.2 = 3) ∧ (q.1 = wShape → q.2 = 3) ∧ (q.1 = wGet → q.2 = 1) := by decide
theorem w51_mid {v : Val} {j n : Nat} {xs : List Val} {i : Nat} (hi : i < n) (e : xs = (List.range n).map (fun k => if k = i then v else oneV j)) : (∀ x ∈ xs, x = v ∨ x = oneV j) ∧ v ∈ xs ∧ xs.length = n := by
  subst e
  refine ⟨fun x hx => ?_, List.mem_map.mpr ⟨i, by simpa using hi, by simp⟩, by simp⟩
  obtain ⟨k, _, rfl⟩ := List.mem_map.mp hx
  by_cases q : k = i
  · left; simp [q]
  · right; simp [q]
theorem w51_at {xs : List Val} {i : Nat} (h : i < xs.length) : L2.atI xs (i : Int) = some ((xs[i]?).getD .non) := at_k (by rw [List.getElem?_eq_getElem h]; rfl)
theorem w51_add {st : Store} {xs ys : List Val} (h : xs.length + ys.length ≤ 1000) : binV st .add (.tup xs) (.tup ys) = some (.tup (xs ++ ys)) := by
  simp only [binV, addV]; rw [if_pos (Nat.le_trans h (by decide))]
section
variable {p : Prg} {c : Cst} (hc : Cok c) (ht : c.talk = 0) (hp : FAt p 17 d_law_taken) (hwd : FAt p 18 d_law_word) (hde : FAt p 21 d_law_deeper)
include hc ht hp hwd hde in
theorem deeper_ok (K : Nat) (v : Val) (e p0 : Txt) (st : Store) (w0 : Dw c st) :
    Ret (callN p (K + 2) 21 [.loc 0, v, .str e, .str p0] st) fun r s => (∃ j w xs, j < 9 ∧ (w, xs.length) ∈ wordsN ∧ (∀ x ∈ xs, x = v ∨ x = oneV j) ∧ v ∈ xs ∧ r = mkV c e p0 w xs) ∧ Dw c s := by
  refine call_of hde rfl ?_
  simp only [d_law_deeper, List.map_cons, List.map_nil, List.length_cons, List.length_nil, List.cons_append, List.nil_append, Nat.reduceAdd, Nat.reduceSub, Nat.zero_add, Nat.add_zero, Nat.sub_self, Nat.sub_zero, List.replicate]
  array_mem_dec
  refine (taken_ok (n := K) hp w0 (by decide) (by decide)).imp fun v1 s1 ⟨⟨i1, e1, l1, m1⟩, w1, _⟩ => ?_
  subst e1
  obtain ⟨i, rfl⟩ := Int.eq_ofNat_of_zero_le l1
  have hi : i < 18 := by omega
  refine ⟨.str (((wordsN.map (·.1))[i]?).getD []), ?_, ?_⟩
  · show L2.atI ((wordsN.map (·.1)).map Val.str) ((i : Nat) : Int) = _
    refine at_k ?_
    have h1 : i < (wordsN.map (·.1)).length := hi
    rw [List.getElem?_map, List.getElem?_eq_getElem h1]; rfl
  have h1 : i < wordsN.length := hi
  obtain ⟨w, n, hwn, hwi⟩ : ∃ w n, (w, n) ∈ wordsN ∧ ((wordsN.map (·.1))[i]?).getD [] = w ∧ wordsN[i]? = some (w, n) := by
    refine ⟨wordsN[i].1, wordsN[i].2, List.getElem_mem h1, ?_, ?_⟩
    · rw [List.getElem?_map, List.getElem?_eq_getElem h1]; rfl
    · rw [List.getElem?_eq_getElem h1]
  rw [hwi.1]
  clear hwi
  have hlk := w51_look hwn
  obtain ⟨hn1, hn4⟩ := w51_rng _ hwn
  obtain ⟨hx1, hx2, hx3, hx4⟩ := w51_fix _ hwn
  simp only at hn1 hn4 hx1 hx2 hx3 hx4
  array_mem_dec
  refine (taken_ok (n := K) hp w1 (by decide) (by decide)).imp fun v1 s2 ⟨⟨j, e2, l2, m2⟩, w2, _⟩ => ?_
  subst e2
  obtain ⟨j, rfl⟩ := Int.eq_ofNat_of_zero_le l2
  have hu2 : j < 9 := by omega
  array_mem_dec
  refine v_dsp2 (ks := GK) (xs := GX) (D := (GK, GX)) ?_
  array_mem_dec
  refine ⟨rfl, Nat.le_of_ble_eq_true rfl, rfl, rfl, ?_⟩
  array_mem_dec
  refine ⟨(GK, GX), w, rfl, rfl, ?_⟩
  rw [hlk]
  clear hlk
  refine t_cut (fun η s => ∃ y4, η = [some (.loc 0), some v, some (.str e), some (.str p0), y4, some (.str w), some (oneV j), some (.int n), none, none, none, none, none] ∧ s = s2) ?_ ?_
  · array_mem_dec
    refine ⟨fun z => ?_, fun z => ?_⟩
    · array_mem_dec
      refine ⟨fun z2 => ?_, fun z2 => ?_⟩
      · have hw : w = wCall := by simpa [eqf] using z2
        have h3 := hx1 (.inr hw)
        subst h3
        array_mem_dec
        rfl
      · have q1 : ¬ w = wFold := by simpa [eqf] using z
        have q2 : ¬ w = wCall := by simpa [eqf] using z2
        array_mem_dec
        rw [if_neg (fun q => q.elim q1 q2)]
        exact ⟨_, rfl, rfl⟩
    · have hw : w = wFold := by simpa [eqf] using z
      have h3 := hx1 (.inl hw)
      subst h3
      refine iteT ?_
      array_mem_dec
      rfl
  rintro η s ⟨y4, rfl, rfl⟩
  array_mem_dec
  refine (taken_ok (n := K) (m := (n : Int)) hp w2 (by omega) (by omega)).imp fun v1 s3 ⟨⟨ia, e3, l3, m3⟩, w3, _⟩ => ?_
  subst e3
  obtain ⟨ia, rfl⟩ := Int.eq_ofNat_of_zero_le l3
  array_mem_dec
  refine ⟨⟨by omega, by omega⟩, ?_⟩
  rw [ckN]
  refine lc_mp (fun x => match x with | .int k => if k.toNat = ia then v else oneV j | y => y) _ (fun x hx => ?_) (by simp; omega) ?_
  · obtain ⟨k, hk, rfl⟩ := List.mem_map.mp hx
    refine ⟨_, rfl, fun _ => rfl, ?_⟩
    array_mem_dec
    refine ⟨fun e => ?_, fun e => ?_⟩
    · have e : k = ia := by have := eq_of_beq e; omega
      array_mem_dec
      exact ⟨by simp [e], rfl⟩
    · have e : ¬ k = ia := fun q => by subst q; simp [eqf] at e
      array_mem_dec
      exact ⟨by simp [e], rfl⟩
  obtain ⟨p1, p2, p3⟩ := w51_mid (v := v) (j := j) (n := n) (i := ia) (by omega) rfl
  have fe : List.map (fun x => match x with | .int k => if k.toNat = ia then v else oneV j | y => y) ((List.range ((n : Int)).toNat).map fun (k : Nat) => Val.int k) = (List.range n).map (fun k => if k = ia then v else oneV j) := by
    rw [List.map_map]; rfl
  rw [fe]
  generalize hxs : (List.range n).map (fun k => if k = ia then v else oneV j) = xs at *
  clear fe hxs
  subst p3
  array_mem_dec
  refine (word_ok hwd w3 hc 5).imp fun v2 s4 ⟨e1, e1'⟩ => ?_
  subst e1 e1'
  array_mem_dec
  have fin : ∀ {w' : Txt}, w = w' → mkV c e p0 w xs = mkV c e p0 w' xs := fun h => by rw [h]
  refine ⟨fun z => ?_, fun z => ?_⟩
  rotate_left
  · have hw : w = wRow := by simpa [eqf] using z
    clear hx1 hx3 hx4 hn1 hn4 z
    subst hw
    refine iteT ?_
    array_mem_dec
    refine iteT' rfl ?_
    array_mem_dec
    exact ⟨⟨j, wRow, xs, hu2, hwn, p1, p2, rfl⟩, w3⟩
  have n1 : ¬ w = wRow := by simpa [eqf] using z
  array_mem_dec
  refine ⟨fun z => ?_, fun z => ?_⟩
  · have hw : w = wGet := by simpa [eqf] using z
    have h1 := hx4 hw
    clear hx1 hx3 hx4 hn1 hn4 z
    subst hw
    array_mem_dec
    refine iteF' rfl ?_
    array_mem_dec
    refine ⟨_, w51_at (i := 0) (by omega), ?_⟩
    array_mem_dec
    exact ⟨⟨j, wGet, xs, hu2, hwn, p1, p2, rfl⟩, w3⟩
  have n2 : ¬ w = wGet := by simpa [eqf] using z
  clear z
  array_mem_dec
  refine ⟨fun z => ?_, fun z => ?_⟩
  · have hw : w = wShape := by simpa [eqf] using z
    have h3 := hx3 hw
    clear hx1 hx3 hx4 hn1 hn4 z
    subst hw
    array_mem_dec
    refine ⟨⟨by decide, by decide⟩, ?_⟩
    rw [ckN]
    refine lc_mp (fun x => match x with | .int i => Val.str (wd c i.toNat) | v => v) _ (fun x hx => ?_) (by simp) ?_
    · obtain ⟨k, _, rfl⟩ := List.mem_map.mp hx
      refine ⟨_, rfl, fun _ => rfl, ?_⟩
      array_mem_dec
      exact (word_ok hwd w3 hc k).imp fun v s' ⟨e, e'⟩ => ⟨e, e'⟩
    have fe2 : List.map (fun x => match x with | .int i => Val.str (wd c i.toNat) | v => v) ((List.range ((3 : Int)).toNat).map fun (k : Nat) => Val.int k) = ((List.range 3).map (wd c)).map .str := by
      rw [List.map_map, List.map_map]; rfl
    rw [fe2]
    array_mem_dec
    rw [ckN]
    refine ⟨⟨by decide, by decide⟩, ?_⟩
    refine lc_mp (fun x => match x with | .int i => Val.tup [.str (((sortT ((List.range 3).map (wd c)))[i.toNat]?).getD []), (xs[i.toNat]?).getD .non] | v => v) _ (fun x hx => ?_) ?_ ?_
    · obtain ⟨k, hk, rfl⟩ := List.mem_map.mp hx
      have hk : k < 3 := by simpa using hk
      refine ⟨_, rfl, fun _ => rfl, ?_⟩
      array_mem_dec
      refine ⟨.str (((sortT ((List.range 3).map (wd c)))[k]?).getD []), ?_, ?_⟩
      · have hl : (sortT ((List.range 3).map (wd c))).length = 3 := by rw [sortT_len]; rfl
        show L2.atI ((sortT ((List.range 3).map (wd c))).map Val.str) ((k : Nat) : Int) = _
        refine at_k ?_
        rw [List.getElem?_map, List.getElem?_eq_getElem (by omega)]; rfl
      array_mem_dec
      refine ⟨_, w51_at (i := k) (by omega), ?_⟩
      array_mem_dec
      exact ⟨rfl, rfl⟩
    · exact Nat.le_of_ble_eq_true rfl
    array_mem_dec
    exact ⟨⟨j, wShape, xs, hu2, hwn, p1, p2, rfl⟩, w3⟩
  have n3 : ¬ w = wShape := by simpa [eqf] using z
  clear z
  array_mem_dec
  refine ⟨fun z => ?_, fun z => ?_⟩
  rotate_left
  · have hw : w = wLet := by simpa [eqf] using z
    clear hx1 hx3 hx4 z
    subst hw
    refine iteT ?_
    array_mem_dec
    refine ⟨_, w51_add (by simp; omega), ?_⟩
    exact ⟨⟨j, wLet, xs, hu2, hwn, p1, p2, rfl⟩, w3⟩
  have n4 : ¬ w = wLet := by simpa [eqf] using z
  clear z
  array_mem_dec
  refine ⟨fun z => ?_, fun z => ?_⟩
  · have hw : w = wEach := by simpa [eqf] using z
    clear hx1 hx3 hx4 z
    subst hw
    array_mem_dec
    refine ⟨_, w51_add (by simp; omega), ?_⟩
    exact ⟨⟨j, wEach, xs, hu2, hwn, p1, p2, rfl⟩, w3⟩
  have n5 : ¬ w = wEach := by simpa [eqf] using z
  clear z
  array_mem_dec
  refine ⟨fun z => ?_, fun z => ?_⟩
  · have hw : w = wFold := by simpa [eqf] using z
    have h3 := hx1 (.inl hw)
    clear hx1 hx3 hx4 hn1 hn4 z
    subst hw
    array_mem_dec
    refine ⟨_, w51_at (i := 0) (by omega), ?_⟩
    array_mem_dec
    refine (word_ok hwd w3 hc 6).imp fun v2 s4 ⟨e1, e1'⟩ => ?_
    subst e1 e1'
    array_mem_dec
    refine ⟨_, w51_at (i := 1) (by omega), ?_⟩
    array_mem_dec
    refine ⟨_, w51_at (i := 2) (by omega), ?_⟩
    array_mem_dec
    exact ⟨⟨j, wFold, xs, hu2, hwn, p1, p2, rfl⟩, w3⟩
  have n6 : ¬ w = wFold := by simpa [eqf] using z
  clear z
  array_mem_dec
  refine ⟨fun z => ?_, fun z => ?_⟩
  rotate_left
  · have hw : w = wIs := by simpa [eqf] using z
    clear hx1 hx3 hx4 z
    subst hw
    refine iteT ?_
    array_mem_dec
    refine iteT' rfl ?_
    array_mem_dec
    refine ⟨_, w51_add (by simp; omega), ?_⟩
    exact ⟨⟨j, wIs, xs, hu2, hwn, p1, p2, rfl⟩, w3⟩
  have n7 : ¬ w = wIs := by simpa [eqf] using z
  clear z
  array_mem_dec
  refine ⟨fun z => ?_, fun z => ?_⟩
  · have hw : w = wHas := by simpa [eqf] using z
    clear hx1 hx3 hx4 z
    subst hw
    array_mem_dec
    refine iteF' rfl ?_
    array_mem_dec
    refine ⟨_, w51_add (by simp; omega), ?_⟩
    exact ⟨⟨j, wHas, xs, hu2, hwn, p1, p2, rfl⟩, w3⟩
  have n8 : ¬ w = wHas := by simpa [eqf] using z
  clear z
  array_mem_dec
  refine ⟨fun z => ?_, fun z => ?_⟩
  · have hw : w = wCall := by simpa [eqf] using z
    clear hx1 hx3 hx4 z
    subst hw
    array_mem_dec
    exact ⟨⟨j, wCall, xs, hu2, hwn, p1, p2, rfl⟩, w3⟩
  have n9 : ¬ w = wCall := by simpa [eqf] using z
  clear z
  array_mem_dec
  refine ⟨_, w51_add (by simp; omega), ?_⟩
  refine ⟨⟨j, w, xs, hu2, hwn, p1, p2, ?_⟩, w3⟩
  simp [mkV, n1, n2, n3, n4, n5, n6, n7, n8, n9]
end
end Mi
namespace Mi
/-! a part so many deep -/
structure PartP (e : Txt) (ev : Val) (p0 : Txt) (k : Nat) (b : Bool) (v : Val) : Prop where
  look : ∀ n names (d : Int), (k < n ∨ 14 ≤ (n : Int) + d) → 1 ≤ n → p0 ∈ names → 1 ≤ d → lookP [e] [ev] [] n v names d = some (if (decide (d + k ≤ 12) && b) = true then .ok else .prog)
  pu : puV (40 * k + 20) v = true
theorem one_part {e : Txt} {ev : Val} {n j : Nat} {names : List Txt} {d : Int} (hj : j < 1000) (hn : 0 < n) : lookP [e] [ev] [] n (oneV j) names d = some (if decide (d ≤ 12) = true then .ok else .prog) := by
  obtain ⟨n, rfl⟩ : ∃ m, n = m + 1 := ⟨n - 1, by omega⟩
  by_cases q : d ≤ 12
  · rw [one_ok hj q, decide_eq_true q]; rfl
  · have q2 : 12 < d := by omega
    rw [decide_eq_false q]
    simp only [lookP, q2, if_true]
    rfl
theorem parts_look {e : Txt} {ev : Val} {p0 : Txt} {k j n : Nat} {b : Bool} {v : Val} {names : List Txt} {d : Int} (hv : PartP e ev p0 k b v) (hj : j < 1000) (hn : k < n ∨ 14 ≤ (n : Int) + d) (hn1 : 1 ≤ n) (hp : p0 ∈ names) (hd : 1 ≤ d) : ∀ (ps : List (Val × List Txt)), (∀ q ∈ ps, q.1 = v ∨ q.1 = oneV j) →
    ∃ D, lookPs (fun one nw => lookP [e] [ev] [] n one (names ++ nw) d) ps = some D ∧ (D = .ok ∨ D = .prog) ∧ ((∃ q ∈ ps, q.1 = v) → D = if (decide (d + k ≤ 12) && b) = true then .ok else .prog) ∧ (D = .prog → (decide (d + (k : Int) ≤ 12) && b) = false)
  | [], _ => ⟨.ok, rfl, .inl rfl, fun ⟨_, h, _⟩ => by simp at h, nofun⟩
  | q :: r, h => by
    obtain ⟨D, hD, hD2, g1, g2⟩ := parts_look hv hj hn hn1 hp hd r fun q hq => h q (by simp [hq])
    have hV := hv.look n (names ++ q.2) d hn hn1 (by simp [hp]) hd
    have hO := one_part (e := e) (ev := ev) (n := n) (j := j) (names := names ++ q.2) (d := d) hj (by omega)
    simp only [lookPs, hD]
    rcases h q (by simp) with hq | hq
    · rw [hq, hV]
      cases z : (decide (d + (k : Int) ≤ 12) && b) with
      | false => exact ⟨.prog, rfl, .inr rfl, fun _ => rfl, fun _ => rfl⟩
      | true =>
        have : D = .ok := by
          rcases hD2 with h | h
          · exact h
          · have := g2 h; rw [z] at this; cases this
        subst this
        exact ⟨.ok, rfl, .inl rfl, fun _ => rfl, nofun⟩
    · rw [hq, hO]
      by_cases z : d ≤ 12
      · rw [decide_eq_true z]
        refine ⟨D, rfl, hD2, fun ⟨u, hu, e1⟩ => ?_, g2⟩
        rcases List.mem_cons.mp hu with hu | hu
        · subst hu
          by_cases hr : ∃ u ∈ r, u.1 = v
          · exact g1 hr
          · -- the part is such a number itself
            have e2 : v = oneV j := by rw [← e1, hq]
            have e3 := hv.look n names d hn hn1 hp hd
            rw [e2, one_part hj (by omega), decide_eq_true z] at e3
            cases zz : (decide (d + (k : Int) ≤ 12) && b) with
            | false => rw [zz] at e3; cases e3
            | true =>
              rcases hD2 with h | h
              · exact h
              · have := g2 h; rw [zz] at this; cases this
        · exact g1 ⟨u, hu, e1⟩
      · have z2 : ¬ d + (k : Int) ≤ 12 := by omega
        rw [decide_eq_false z, decide_eq_false z2]
        exact ⟨.prog, rfl, .inr rfl, fun _ => rfl, fun _ => rfl⟩
theorem part_step {e : Txt} {ev : Val} {p0 : Txt} {k j : Nat} {b : Bool} {v : Val} {w : Txt} {r : List Val} {ps : List (Val × List Txt)} (hv : PartP e ev p0 k b v) (hj : j < 1000) (hz : szOf w = some (r.length + 1))
    (hc : ∀ names, p0 ∈ names → chkD [e] [ev] [] names w r = some .ok) (hp : partsOf w r = some ps) (hq : ∀ q ∈ ps, q.1 = v ∨ q.1 = oneV j) (hm : ∃ q ∈ ps, q.1 = v) (hpu : puV (40 * k + 60) (.tup (.str w :: r)) = true) :
    PartP e ev p0 (k + 1) b (.tup (.str w :: r)) := by
  refine ⟨fun n names d hn hn1 hp0 hd => ?_, by rw [show 40 * (k + 1) + 20 = 40 * k + 60 by omega]; exact hpu⟩
  obtain ⟨n, rfl⟩ : ∃ m, n = m + 1 := ⟨n - 1, by omega⟩
  by_cases q : 12 < d
  · have q2 : ¬ d + ((k + 1 : Nat) : Int) ≤ 12 := by omega
    rw [decide_eq_false q2]
    simp only [lookP, q, if_true]
    rfl
  · obtain ⟨D, hD, _, g1, _⟩ := parts_look hv hj (n := n) (names := names) (d := d + 1) (by omega) (by omega) hp0 (by omega) ps hq
    have e1 : d + ((k + 1 : Nat) : Int) = d + 1 + k := by omega
    rw [e1, ← g1 hm, ← hD]
    simp only [lookP, q, if_false, hz, if_true, hc names hp0, hp, seqD]
theorem puStr {n : Nat} {t : Txt} (h : 1 ≤ n) : puV n (.str t) = true := by
  obtain ⟨b, rfl⟩ : ∃ m, n = m + 1 := ⟨n - 1, by omega⟩; rfl
theorem part_mk {e : Txt} {ev : Val} {p0 : Txt} {k j : Nat} {b : Bool} {v : Val} {w : Txt} {r xs : List Val} {ps : List (Val × List Txt)} (hv : PartP e ev p0 k b v) (hj : j < 1000) (hz : szOf w = some (r.length + 1))
    (hc : ∀ names, p0 ∈ names → chkD [e] [ev] [] names w r = some .ok) (hp : partsOf w r = some ps) (he : ps.map (·.1) = xs) (hx : ∀ x ∈ xs, x = v ∨ x = oneV j) (hm : v ∈ xs) (hpu : puV (40 * k + 60) (.tup (.str w :: r)) = true) :
    PartP e ev p0 (k + 1) b (.tup (.str w :: r)) := by
  subst he
  refine part_step hv hj hz hc hp (fun q hq => hx _ (List.mem_map.mpr ⟨q, hq, rfl⟩)) ?_ hpu
  obtain ⟨q, hq, e⟩ := List.mem_map.mp hm
  exact ⟨q, hq, e⟩
theorem puC {n : Nat} {xs : List Val} {w : Txt} {b : Nat} (h : ∀ x ∈ xs, puV b x = true) (hb : 1 ≤ b) (hn : b + xs.length + 3 ≤ n) : puV n (.tup (.str w :: xs)) = true := by
  refine puT (b := b) (fun x hx => ?_) (by simp; omega)
  rcases List.mem_cons.mp hx with rfl | hx
  · obtain ⟨b, rfl⟩ : ∃ m, b = m + 1 := ⟨b - 1, by omega⟩; rfl
  · exact h x hx
theorem mk_part {c : Cst} (hc : Cok c) (ht : c.talk = 0) {e : Txt} {ev : Val} {p0 : Txt} {k j : Nat} {b : Bool} {v : Val} {w : Txt} {xs : List Val} (hj : j < 9) (hv : PartP e ev p0 k b v) (hw : (w, xs.length) ∈ wordsN) (hx : ∀ x ∈ xs, x = v ∨ x = oneV j) (hm : v ∈ xs)
    (hev : ∃ q0 a1 a2 a3 q1 q2, ev = .tup [q0, .tup [], .tup [a1, a2, a3], q1, q2]) : PartP e ev p0 (k + 1) b (mkV c e p0 w xs) := by
  have j1 : j < 1000 := by omega
  have sm : ∀ k, isWs smallT (wd c k) = true := fun k => word_small (wd_word hc k)
  have px : ∀ x ∈ xs, puV (40 * k + 20) x = true := fun x h => by
    rcases hx x h with rfl | rfl
    · exact hv.pu
    · exact pm (a := 10) rfl (by omega)
  have hl4 : ∀ {n}, n < 40 → ∀ x ∈ xs, puV (40 * k + 20 + n) x = true := fun {n} _ x h => pm (px x h) (by omega)
  have hs : ∀ t, puV (40 * k + 20) (.str t) = true := fun t => puStr (by omega)
  have hkn : puV (40 * k + 20) kN = true := pm (a := 10) rfl (by omega)
  have hxs : xs.length ≤ 4 → puV (40 * k + 26) (.tup xs) = true := fun h => puT px (by omega)
  simp only [wordsN, List.mem_cons, Prod.mk.injEq, List.not_mem_nil, or_false] at hw
  rcases hw with ⟨rfl, hl⟩ | ⟨rfl, hl⟩ | ⟨rfl, hl⟩ | ⟨rfl, hl⟩ | ⟨rfl, hl⟩ | ⟨rfl, hl⟩ | ⟨rfl, hl⟩ | ⟨rfl, hl⟩ | ⟨rfl, hl⟩ | ⟨rfl, hl⟩ | ⟨rfl, hl⟩ | ⟨rfl, hl⟩ | ⟨rfl, hl⟩ | ⟨rfl, hl⟩ | ⟨rfl, hl⟩ | ⟨rfl, hl⟩ | ⟨rfl, hl⟩ | ⟨rfl, hl⟩
  · obtain ⟨x0, x1, x2, rfl⟩ : ∃ x0 x1 x2, xs = [x0, x1, x2] := by
      match xs, hl with
      | [x0, x1, x2], _ => exact ⟨_, _, _, rfl⟩
    exact part_mk hv j1 rfl (fun _ _ => rfl) rfl rfl hx hm (puC (b := 40 * k + 26) (by simp only [List.forall_mem_cons]; exact ⟨hxs (by simp), fun _ h => nomatch h⟩) (by omega) (by simp))
  · obtain ⟨x0, x1, x2, rfl⟩ : ∃ x0 x1 x2, xs = [x0, x1, x2] := by
      match xs, hl with
      | [x0, x1, x2], _ => exact ⟨_, _, _, rfl⟩
    have sl : (sortT ((List.range 3).map (wd c))).length = 3 := by rw [sortT_len]; simp
    have snd : ((List.range 3).map (wd c)).Nodup := by
      rw [List.Nodup, List.pairwise_map]
      refine List.Pairwise.imp_of_mem (fun {a b} ha hb ne e => ne (wd_inj hc ht ?_ ?_ e)) List.nodup_range
      · simp at ha; omega
      · simp at hb; omega
    have sw : ∀ u ∈ sortT ((List.range 3).map (wd c)), Word u := fun u h => by
      obtain ⟨k, _, rfl⟩ := List.mem_map.mp ((sortT_perm _).mem_iff.mp h)
      exact wd_word hc k
    have ss := sort_lt snd
    obtain ⟨u0, u1, u2, hu⟩ : ∃ u0 u1 u2, sortT ((List.range 3).map (wd c)) = [u0, u1, u2] := by
      match h : sortT ((List.range 3).map (wd c)), sl with
      | [a, b, c], _ => exact ⟨_, _, _, rfl⟩
    rw [hu] at sw ss
    have em : mkV c e p0 wShape [x0, x1, x2] = .tup (.str wShape :: [.tup [.tup [.str u0, x0], .tup [.str u1, x1], .tup [.str u2, x2]]]) := by
      unfold mkV
      rw [if_neg (by decide), if_neg (by decide), if_pos rfl, hu]
      rfl
    rw [em]
    have pf : ∀ t x, x ∈ [x0, x1, x2] → puV (40 * k + 25) (.tup [.str t, x]) = true := fun t x h => puT (b := 40 * k + 20) (by simp only [List.forall_mem_cons]; exact ⟨hs _, px _ h, fun _ h => nomatch h⟩) (by simp)
    refine part_mk hv j1 rfl (fun names _ => ?_) rfl rfl hx hm (puC (b := 40 * k + 31) (by simp only [List.forall_mem_cons]; exact ⟨puT (b := 40 * k + 25) (by simp only [List.forall_mem_cons]; exact ⟨pf _ _ (by simp), pf _ _ (by simp), pf _ _ (by simp), fun _ h => nomatch h⟩) (by simp), fun _ h => nomatch h⟩) (by omega) (by simp))
    have hg : goodF [.tup [.str u0, x0], .tup [.str u1, x1], .tup [.str u2, x2]] [] = some true :=
      pairs_good [(u0, x0), (u1, x1), (u2, x2)] [] (by simp only [List.forall_mem_cons]; exact ⟨⟨sw _ (by simp), lt_nil (sw _ (by simp)).ne⟩, ⟨sw _ (by simp), lt_nil (sw _ (by simp)).ne⟩, ⟨sw _ (by simp), lt_nil (sw _ (by simp)).ne⟩, fun _ h => nomatch h⟩) ss
    unfold chkD
    rw [if_pos (by decide)]
    show mD (goodV (.tup [.tup [.str u0, x0], .tup [.str u1, x1], .tup [.str u2, x2]])) = _
    simp only [goodV]
    rw [if_neg (by simp), hg]
    rfl
  · obtain ⟨x0, rfl⟩ : ∃ x0, xs = [x0] := by
      match xs, hl with
      | [x0], _ => exact ⟨_, rfl⟩
    refine part_mk hv j1 rfl (fun names _ => ?_) rfl rfl hx hm (puC (b := 40 * k + 20) (by simp only [List.forall_mem_cons]; exact ⟨px _ (by simp), hs _, fun _ h => nomatch h⟩) (by omega) (by simp))
    unfold chkD
    rw [if_pos (by decide)]
    show mD (isWV smallT (.str (wd c 5))) = _
    simp [isWV, sm, mD]
  · obtain ⟨x0, rfl⟩ : ∃ x0, xs = [x0] := by
      match xs, hl with
      | [x0], _ => exact ⟨_, rfl⟩
    exact part_mk hv j1 rfl (fun _ _ => rfl) rfl rfl hx hm (puC (b := 40 * k + 20) (by simp only [List.forall_mem_cons]; exact ⟨px _ (by simp), fun _ h => nomatch h⟩) (by omega) (by simp))
  · obtain ⟨x0, x1, rfl⟩ : ∃ x0 x1, xs = [x0, x1] := by
      match xs, hl with
      | [x0, x1], _ => exact ⟨_, _, rfl⟩
    exact part_mk hv j1 rfl (fun _ _ => rfl) rfl rfl hx hm (puC (b := 40 * k + 20) (by simp only [List.forall_mem_cons]; exact ⟨px _ (by simp), px _ (by simp), fun _ h => nomatch h⟩) (by omega) (by simp))
  · obtain ⟨x0, x1, rfl⟩ : ∃ x0 x1, xs = [x0, x1] := by
      match xs, hl with
      | [x0, x1], _ => exact ⟨_, _, rfl⟩
    exact part_mk hv j1 rfl (fun _ _ => rfl) rfl rfl hx hm (puC (b := 40 * k + 20) (by simp only [List.forall_mem_cons]; exact ⟨px _ (by simp), px _ (by simp), fun _ h => nomatch h⟩) (by omega) (by simp))
  · obtain ⟨x0, x1, rfl⟩ : ∃ x0 x1, xs = [x0, x1] := by
      match xs, hl with
      | [x0, x1], _ => exact ⟨_, _, rfl⟩
    exact part_mk hv j1 rfl (fun _ _ => rfl) rfl rfl hx hm (puC (b := 40 * k + 20) (by simp only [List.forall_mem_cons]; exact ⟨px _ (by simp), px _ (by simp), fun _ h => nomatch h⟩) (by omega) (by simp))
  · obtain ⟨x0, x1, rfl⟩ : ∃ x0 x1, xs = [x0, x1] := by
      match xs, hl with
      | [x0, x1], _ => exact ⟨_, _, rfl⟩
    exact part_mk hv j1 rfl (fun _ _ => rfl) rfl rfl hx hm (puC (b := 40 * k + 20) (by simp only [List.forall_mem_cons]; exact ⟨px _ (by simp), px _ (by simp), fun _ h => nomatch h⟩) (by omega) (by simp))
  · obtain ⟨x0, x1, x2, rfl⟩ : ∃ x0 x1 x2, xs = [x0, x1, x2] := by
      match xs, hl with
      | [x0, x1, x2], _ => exact ⟨_, _, _, rfl⟩
    exact part_mk hv j1 rfl (fun _ _ => rfl) rfl rfl hx hm (puC (b := 40 * k + 20) (by simp only [List.forall_mem_cons]; exact ⟨px _ (by simp), px _ (by simp), px _ (by simp), fun _ h => nomatch h⟩) (by omega) (by simp))
  · obtain ⟨x0, x1, x2, rfl⟩ : ∃ x0 x1 x2, xs = [x0, x1, x2] := by
      match xs, hl with
      | [x0, x1, x2], _ => exact ⟨_, _, _, rfl⟩
    exact part_mk hv j1 rfl (fun _ _ => rfl) rfl rfl hx hm (puC (b := 40 * k + 20) (by simp only [List.forall_mem_cons]; exact ⟨px _ (by simp), px _ (by simp), px _ (by simp), fun _ h => nomatch h⟩) (by omega) (by simp))
  · obtain ⟨x0, x1, x2, rfl⟩ : ∃ x0 x1 x2, xs = [x0, x1, x2] := by
      match xs, hl with
      | [x0, x1, x2], _ => exact ⟨_, _, _, rfl⟩
    exact part_mk hv j1 rfl (fun _ _ => rfl) rfl rfl hx hm (puC (b := 40 * k + 20) (by simp only [List.forall_mem_cons]; exact ⟨px _ (by simp), px _ (by simp), px _ (by simp), fun _ h => nomatch h⟩) (by omega) (by simp))
  · obtain ⟨x0, x1, rfl⟩ : ∃ x0 x1, xs = [x0, x1] := by
      match xs, hl with
      | [x0, x1], _ => exact ⟨_, _, rfl⟩
    show PartP _ _ _ _ _ (.tup (.str wLet :: [.str (wd c 5), x0, x1]))
    refine part_mk hv j1 rfl (fun names _ => ?_) rfl rfl hx hm (puC (b := 40 * k + 20) (by simp only [List.forall_mem_cons]; exact ⟨hs _, px _ (by simp), px _ (by simp), fun _ h => nomatch h⟩) (by omega) (by simp))
    unfold chkD
    rw [if_neg (by decide), if_pos (by decide)]
    have e : ¬ wLet = wFold := by decide
    simp only [newN, isWV, sm, mD, seqD, e, if_false, Option.map_some, if_true]
  · obtain ⟨x0, x1, rfl⟩ : ∃ x0 x1, xs = [x0, x1] := by
      match xs, hl with
      | [x0, x1], _ => exact ⟨_, _, rfl⟩
    show PartP _ _ _ _ _ (.tup (.str wEach :: [.str (wd c 5), x0, x1]))
    refine part_mk hv j1 rfl (fun names _ => ?_) rfl rfl hx hm (puC (b := 40 * k + 20) (by simp only [List.forall_mem_cons]; exact ⟨hs _, px _ (by simp), px _ (by simp), fun _ h => nomatch h⟩) (by omega) (by simp))
    unfold chkD
    rw [if_neg (by decide), if_pos (by decide)]
    have e : ¬ wEach = wFold := by decide
    simp only [newN, isWV, sm, mD, seqD, e, if_false, Option.map_some, if_true]
  · obtain ⟨x0, x1, x2, x3, rfl⟩ : ∃ x0 x1 x2 x3, xs = [x0, x1, x2, x3] := by
      match xs, hl with
      | [x0, x1, x2, x3], _ => exact ⟨_, _, _, _, rfl⟩
    exact part_mk hv j1 rfl (fun _ _ => rfl) rfl rfl hx hm (puC (b := 40 * k + 20) (by simp only [List.forall_mem_cons]; exact ⟨px _ (by simp), px _ (by simp), px _ (by simp), px _ (by simp), fun _ h => nomatch h⟩) (by omega) (by simp))
  · obtain ⟨x0, x1, x2, rfl⟩ : ∃ x0 x1 x2, xs = [x0, x1, x2] := by
      match xs, hl with
      | [x0, x1, x2], _ => exact ⟨_, _, _, rfl⟩
    have n56 : wd c 5 ≠ wd c 6 := fun e => by have := wd_inj hc ht (by decide) (by decide) e; omega
    refine part_mk hv j1 rfl (fun names _ => ?_) rfl rfl hx hm (puC (b := 40 * k + 20) (by simp only [List.forall_mem_cons]; exact ⟨hs _, px _ (by simp), hs _, hkn, px _ (by simp), px _ (by simp), fun _ h => nomatch h⟩) (by omega) (by simp))
    unfold chkD
    rw [if_neg (by decide), if_pos (by decide)]
    have e : (wd c 5 == wd c 6) = false := beq_false_of_ne n56
    simp [newN, isWV, sm, mD, seqD, eqS, e, kN_ok]
  · obtain ⟨x0, x1, rfl⟩ : ∃ x0 x1, xs = [x0, x1] := by
      match xs, hl with
      | [x0, x1], _ => exact ⟨_, _, rfl⟩
    show PartP _ _ _ _ _ (.tup (.str wIs :: [.str p0, .str wRow, x0, x1]))
    refine part_mk hv j1 rfl (fun names hp0 => ?_) rfl rfl hx hm (puC (b := 40 * k + 20) (by simp only [List.forall_mem_cons]; exact ⟨hs _, hs _, px _ (by simp), px _ (by simp), fun _ h => nomatch h⟩) (by omega) (by simp))
    unfold chkD
    rw [if_neg (by decide), if_neg (by decide), if_neg (by decide), if_pos (by decide)]
    simp only [nameD, inS, hp0, decide_true, if_true]
    rfl
  · obtain ⟨x0, x1, rfl⟩ : ∃ x0 x1, xs = [x0, x1] := by
      match xs, hl with
      | [x0, x1], _ => exact ⟨_, _, rfl⟩
    show PartP _ _ _ _ _ (.tup (.str wHas :: [.str p0, .str (wd c 5), x0, x1]))
    refine part_mk hv j1 rfl (fun names hp0 => ?_) rfl rfl hx hm (puC (b := 40 * k + 20) (by simp only [List.forall_mem_cons]; exact ⟨hs _, hs _, px _ (by simp), px _ (by simp), fun _ h => nomatch h⟩) (by omega) (by simp))
    unfold chkD
    rw [if_neg (by decide), if_neg (by decide), if_neg (by decide), if_pos (by decide)]
    have e : ¬ wHas = wIs := by decide
    simp only [nameD, inS, hp0, decide_true, e, if_false, if_true, isWV, sm]
    rfl
  · obtain ⟨x0, x1, x2, rfl⟩ : ∃ x0 x1 x2, xs = [x0, x1, x2] := by
      match xs, hl with
      | [x0, x1, x2], _ => exact ⟨_, _, _, rfl⟩
    obtain ⟨q0, a1, a2, a3, q1, q2, rfl⟩ := hev
    refine part_mk hv j1 rfl (fun names _ => ?_) rfl rfl hx hm (puC (b := 40 * k + 26) (by simp only [List.forall_mem_cons]; exact ⟨puStr (by omega), pm (a := 10) rfl (by omega), hxs (by simp), fun _ h => nomatch h⟩) (by omega) (by simp))
    unfold chkD
    rw [if_neg (by decide), if_neg (by decide), if_pos rfl]
    simp [callD, look, kindsD]
end Mi
namespace Mi
local macro_rules | `(tactic| array_mem_dec) => `(tactic| repeat (first | (with_reducible apply t_seq) | (with_reducible apply t_skip) | (with_reducible apply t_asg) | (with_reducible apply t_ret) | (with_reducible apply t_expr) | (with_reducible apply t_put) | (with_reducible apply t_ite) | (with_reducible apply t_for) | (with_reducible apply t_asgT) | (with_reducible apply t_setf) | (with_reducible apply t_raise) | (with_reducible apply t_retN) | (with_reducible apply t_brk) | (with_reducible apply t_cont) | ((with_reducible apply v_var); rfl) | ((with_reducible apply b_var); rfl) | ((with_reducible apply i_var); rfl) | ((with_reducible apply v_glb); first | assumption | rfl) | (with_reducible apply v_fld) | (with_reducible apply v_meth) | (with_reducible apply b_fld) | (with_reducible apply b_meth) | (with_reducible apply i_fld) | (with_reducible apply i_meth) | (with_reducible apply v_lit) | (with_reducible apply v_ix) | (with_reducible apply v_bin) | (with_reducible apply v_cmp) | (with_reducible apply v_call) | (with_reducible apply v_tup) | (with_reducible apply v_lst) | (with_reducible apply v_new) | (with_reducible apply v_fn) | (with_reducible apply v_isi) | (with_reducible apply v_mt) | (with_reducible apply v_and) | (with_reducible apply v_or) | (with_reducible apply v_not) | (with_reducible apply v_ite) | (with_reducible apply v_neg) | (with_reducible apply v_chain) | (with_reducible apply v_isN) | (with_reducible apply v_isB) | (with_reducible apply v_lc) | (with_reducible apply a_cons) | (with_reducible apply a_nil) | (with_reducible apply b_cmp) | (with_reducible apply b_and) | (with_reducible apply b_or) | (with_reducible apply b_not) | (with_reducible apply b_call) | (with_reducible apply b_isi) | (with_reducible apply b_lit) | (with_reducible apply b_isN) | (with_reducible apply b_isB) | (with_reducible apply b_chain) | (with_reducible apply b_mt) | (with_reducible apply b_fn) | (with_reducible apply i_rng) | (with_reducible apply i_ix) | (with_reducible apply i_fn) | (with_reducible apply i_call) | (with_reducible apply i_bin) | (with_reducible apply i_lst) | (with_reducible apply i_sortK) | (with_reducible apply i_tup) | (with_reducible apply i_lc) | (with_reducible apply v_dcpy) | (with_reducible apply v_lnew) | (with_reducible apply v_dget) | (with_reducible apply v_kin) | (with_reducible apply v_kix) | (with_reducible apply b_kin) | (with_reducible apply ie_t0) | (with_reducible apply ie_t1) | (with_reducible apply ie_t2) | (with_reducible apply ie_t3) | (with_reducible apply ie_t4) | (with_reducible apply ie_t5) | (with_reducible apply ie_t6) | refine ⟨Nat.le_of_ble_eq_true rfl, ?_⟩ | refine ⟨_, rfl, ?_⟩))
/-! data that is itself -/
def dvB : Nat → Val → Bool
  | 0, _ => false
  | n + 1, v => (match v with
    | .non => true | .bl _ => true | .int _ => true | .str _ => true
    | .tup xs => xs.all (dvB n)
    | _ => false)
theorem dv_self (st : Store) : ∀ (n m : Nat) (v : Val), dvB n v = true → n ≤ m → eqv st m v v = some true := by
  intro n
  induction n with
  | zero => intro m v h; simp [dvB] at h
  | succ n ih =>
    intro m v h hm
    obtain ⟨m, rfl⟩ : ∃ k, m = k + 1 := ⟨m - 1, by omega⟩
    cases v with
    | non => rfl
    | bl b => show some (b == b) = _; simp
    | int b => show some (b == b) = _; simp
    | str b => show some (b == b) = _; simp
    | tup xs =>
      simp only [dvB, List.all_eq_true] at h
      show (eqz (eqv st m) xs xs).map (· && xs.length == xs.length) = some true
      have : eqz (eqv st m) xs xs = some true := by
        have hm2 : n ≤ m := by omega
        clear hm
        induction xs with
        | nil => rfl
        | cons x r ihr =>
          simp only [eqz, ih m x (h x (by simp)) hm2, ihr fun y hy => h y (by simp [hy]), Option.bind_some, Option.map_some, Bool.and_true]
      rw [this]; simp
    | _ => simp [dvB] at h
theorem dv_mono : ∀ (n : Nat) (v : Val), dvB n v = true → dvB (n + 1) v = true := by
  intro n
  induction n with
  | zero => intro v h; simp [dvB] at h
  | succ n ih =>
    intro v h
    cases v with
    | tup xs =>
      simp only [dvB, List.all_eq_true] at h ⊢
      intro x hx
      have := ih x (h x hx)
      simpa only [dvB] using this
    | _ => first | rfl | (simp [dvB] at h)
theorem dv_le {n m : Nat} {v : Val} (h : dvB n v = true) (l : n ≤ m) : dvB m v = true := by
  obtain ⟨k, rfl⟩ := Nat.exists_eq_add_of_le l
  induction k with
  | zero => exact h
  | succ k ih => exact dv_mono _ _ (ih (by omega))
theorem dvT {n : Nat} {xs : List Val} (h : ∀ x ∈ xs, dvB n x = true) : dvB (n + 1) (.tup xs) = true := by
  simp only [dvB, List.all_eq_true]; exact h
theorem dvS {n : Nat} {t : Txt} : dvB (n + 1) (.str t) = true := rfl
theorem mk_dv {c : Cst} {e p0 w : Txt} {xs : List Val} {n : Nat} (h : ∀ x ∈ xs, dvB (n + 1) x = true) (hw : (w, xs.length) ∈ wordsN) : dvB (n + 4) (mkV c e p0 w xs) = true := by
  have h2 : ∀ x ∈ xs, dvB (n + 2) x = true := fun x hx => dv_le (h x hx) (by omega)
  have h3 : ∀ x ∈ xs, dvB (n + 3) x = true := fun x hx => dv_le (h x hx) (by omega)
  have hg : ∀ k : Nat, dvB (n + 3) ((xs[k]?).getD .non) = true := fun k => by
    cases q : xs[k]? with
    | none => rfl
    | some v => exact h3 v (List.mem_of_getElem? q)
  have hg1 : ∀ k : Nat, dvB (n + 1) ((xs[k]?).getD .non) = true := fun k => by
    cases q : xs[k]? with
    | none => rfl
    | some v => exact h v (List.mem_of_getElem? q)
  unfold mkV
  repeat' split
  · exact dvT (by simp only [List.forall_mem_cons]; exact ⟨rfl, dvT h2, fun _ h => nomatch h⟩)
  · exact dvT (by simp only [List.forall_mem_cons]; exact ⟨rfl, hg 0, rfl, fun _ h => nomatch h⟩)
  · have hf : ∀ x ∈ ((List.range 3).map fun k => Val.tup [.str (((sortT ((List.range 3).map (wd c)))[k]?).getD []), (xs[k]?).getD .non]), dvB (n + 2) x = true := fun x hx => by
      obtain ⟨k, _, rfl⟩ := List.mem_map.mp hx
      exact dvT (by simp only [List.forall_mem_cons]; exact ⟨rfl, hg1 k, fun _ h => nomatch h⟩)
    exact dvT (by simp only [List.forall_mem_cons]; exact ⟨rfl, dvT hf, fun _ h => nomatch h⟩)
  · refine dvT fun x hx => ?_
    rcases List.mem_append.mp hx with hx | hx
    · simp at hx; rcases hx with rfl | rfl <;> rfl
    · exact h3 x hx
  · exact dvT (by simp only [List.forall_mem_cons]; exact ⟨rfl, rfl, hg 0, rfl, dv_le (n := 3) rfl (by omega), hg 1, hg 2, fun _ h => nomatch h⟩)
  · refine dvT fun x hx => ?_
    rcases List.mem_append.mp hx with hx | hx
    · simp only [List.mem_cons, List.not_mem_nil, or_false] at hx; rcases hx with rfl | rfl | rfl <;> rfl
    · exact h3 x hx
  · refine dvT fun x hx => ?_
    rcases List.mem_append.mp hx with hx | hx
    · simp only [List.mem_cons, List.not_mem_nil, or_false] at hx; rcases hx with rfl | rfl | rfl <;> rfl
    · exact h3 x hx
  · exact dvT (by simp only [List.forall_mem_cons]; exact ⟨rfl, rfl, rfl, dvT h2, fun _ h => nomatch h⟩)
  · refine dvT fun x hx => ?_
    rcases List.mem_cons.mp hx with rfl | hx
    · rfl
    · exact h3 x hx
/-! the draws of a leaf -/
theorem joinT_sg : ∀ {ts : List Txt}, (∀ t ∈ ts, ∃ c ∈ signsT, t = [c]) → (joinT [] ts).length = ts.length ∧ (joinT [] ts).all (fun c => decide (c ∈ signsT)) = true
  | [], _ => ⟨rfl, rfl⟩
  | [t], h => by
    obtain ⟨c, hc, rfl⟩ := h t (by simp)
    exact ⟨rfl, by simp [joinT, hc]⟩
  | t :: u :: r, h => by
    obtain ⟨c, hc, rfl⟩ := h t (by simp)
    obtain ⟨i1, i2⟩ := joinT_sg (ts := u :: r) fun t ht => h t (by simp only [List.mem_cons] at ht ⊢; exact .inr ht)
    refine ⟨by simp only [joinT, List.append_nil, List.length_append, i1, List.length_cons, List.length_nil]; omega, ?_⟩
    simp only [joinT, List.append_nil, List.all_append, i2, Bool.and_true]
    simp [hc]
section
variable {p : Prg} {c : Cst} (hc : Cok c) (hp : FAt p 17 d_law_taken) (htx : FAt p 19 d_law_text)
include hp htx in
theorem text_ok (K : Nat) (st : Store) (w0 : Dw c st) : Ret (callN p (K + 2) 19 [.loc 0] st) fun v s => (∃ t, v = .str t ∧ t.length ≤ 3 ∧ t.all (fun c => decide (c ∈ signsT)) = true) ∧ Dw c s := by
  refine call_of htx rfl ?_
  simp only [d_law_text, List.map_cons, List.map_nil, List.length_cons, List.length_nil, List.cons_append, List.nil_append, Nat.reduceAdd, Nat.reduceSub, Nat.zero_add, Nat.add_zero, Nat.sub_self, Nat.sub_zero, List.replicate]
  array_mem_dec
  refine ⟨rfl, ?_⟩
  array_mem_dec
  refine (taken_ok (n := K) hp w0 (by decide) (by decide)).imp fun v1 s1 ⟨⟨i1, e1, l1, m1⟩, w1, _⟩ => ?_
  subst e1
  refine ⟨i1, rfl, ⟨by omega, by omega⟩, ?_⟩
  rw [ckN]
  refine lc_all (fun s => Dw c s) (fun v => ∃ t, v = .str t ∧ ∃ c ∈ signsT, t = [c]) _ _ _ w1 (fun x hx => ⟨_, rfl, fun _ => rfl, fun s ws => ?_⟩) ?_ (by simp) fun vs s ws hv hlen => ?_
  · array_mem_dec
    refine (taken_ok (n := K) hp ws (by decide) (by decide)).imp fun v2 s2 ⟨⟨i2, e2, l2, m2⟩, w2, _⟩ => ?_
    subst e2
    obtain ⟨n, rfl⟩ := Int.eq_ofNat_of_zero_le l2
    have hn : n < signsT.length := by show n < 94; omega
    refine ⟨.str [signsT[n]], ?_, ⟨_, rfl, _, List.getElem_mem hn, rfl⟩, w2⟩
    show (L2.atI signsT (n : Int)).map (fun c => Val.str [c]) = _
    have : L2.atI signsT (n : Int) = some signsT[n] := by simp [L2.atI, L2.ixN, hn]
    rw [this]; rfl
  · simp [show PySem.sizeLine = 16777216 from rfl]; omega
  obtain ⟨ts, rfl, hts⟩ := map_of hv
  array_mem_dec
  obtain ⟨g1, g2⟩ := joinT_sg hts
  have l3 : ts.length ≤ 3 := by simp at hlen; omega
  have hsum : (ts.map (·.length)).sum ≤ ts.length := by
    clear g1 g2 hlen l3 hv
    induction ts with
    | nil => simp
    | cons t r ih =>
      obtain ⟨c, _, rfl⟩ := hts t (by simp)
      have := ih fun t ht => hts t (by simp [ht])
      simp; omega
  refine ⟨(.str (joinT [] ts), s), ?_, ⟨_, rfl, by omega, g2⟩, ws⟩
  simp only [mtV, asL, Option.bind, strs_all]
  rw [if_pos (by simp; omega)]
end
end Mi
namespace Mi
def parsV (c : Cst) : List Val := [.tup [.str (wd c 10), kN], .tup [.str (wd c 11), kN], .tup [.str (wd c 12), kN]]
def evV (c : Cst) : Val := .tup [.str (wd c 21), .tup [], .tup (parsV c), kN, .tup [.str wName, .str (wd c 10)]]
def fnT (c : Cst) (nm : Txt) (v : Val) : Val := .tup [.str nm, .tup [], .tup (parsV c), kN, v]
theorem pars_ok {c : Cst} (hc : Cok c) (ht : c.talk = 0) : pairsT smallT (.tup (parsV c)) = some (.ok, [wd c 10, wd c 11, wd c 12]) := by
  have sm : ∀ k, isWs smallT (wd c k) = true := fun k => word_small (wd_word hc k)
  have i : ∀ {a b : Nat}, a < 26 → b < 26 → a ≠ b → wd c a ≠ wd c b := fun h1 h2 h3 e => h3 (wd_inj hc ht h1 h2 e)
  exact pairs_qs (sg := smallT) (qs := [(wd c 10, kN), (wd c 11, kN), (wd c 12, kN)]) (by simp [sm]) (by simp [i]) (by simp)
theorem pars_bnds {c : Cst} {ls : List Txt} : bndsD ls (parsV c) = some .ok := by
  have h : kindD ls kN = some .ok := kN_ok ls
  simp only [parsV, bndsD, h, seqD]
theorem pars_tail {c : Cst} (hc : Cok c) (ht : c.talk = 0) {eks : List Txt} {exs : List Val} {bd : Val} : tailD eks exs [] (.tup (parsV c)) kN bd = lookP eks exs [] 14 bd [wd c 10, wd c 11, wd c 12] 1 := by
  simp only [tailD, pars_ok hc ht, pars_bnds, seqD]
  rw [kN_ok]
theorem none_pairs : pairsT greatT (.tup []) = some (.ok, []) := rfl
theorem none_bnds : bndsD [] [] = some .ok := rfl
theorem name_part {eks : List Txt} {exs : List Val} {n : Nat} {x : Txt} {names : List Txt} {d : Int} (h : x ∈ names) : lookP eks exs [] (n + 1) (.tup [.str wName, .str x]) names d = some (if decide (d ≤ 12) = true then .ok else .prog) := by
  have hz : szOf wName = some 2 := rfl
  have hp : partsOf wName [.str x] = some [] := rfl
  have hc : chkD eks exs [] names wName [.str x] = some .ok := by
    unfold chkD
    rw [if_neg (by decide), if_neg (by decide), if_neg (by decide), if_pos (by decide)]
    have e1 : ¬ wName = wIs := by decide
    have e2 : ¬ wName = wHas := by decide
    simp only [nameD, inS, h, decide_true, e1, e2, if_false]
  by_cases q : d ≤ 12
  · have q2 : ¬ 12 < d := by omega
    rw [decide_eq_true q]
    simp only [lookP, q2, if_false, hz, hp, hc]
    rfl
  · have q2 : 12 < d := by omega
    rw [decide_eq_false q]
    simp only [lookP, q2, if_true]
    rfl
theorem ev_fun {c : Cst} (hc : Cok c) (ht : c.talk = 0) : funD [] [] (evV c) = some .ok := by
  refine fun_of (earl_head hc ht) none_pairs rfl none_bnds ?_
  rw [pars_tail hc ht, name_part (by simp)]
  rfl
theorem fn_bad {c : Cst} {nm : Txt} {v : Val} (h : headD [wd c 21] [evV c] (.str nm) = some .prog) : funD [wd c 21] [evV c] (fnT c nm v) = some .prog := by
  simp only [fnT, funD, h, seqD]
theorem fn_good {c : Cst} (hc : Cok c) (ht : c.talk = 0) {nm : Txt} {v : Val} {D : Vd} (h : headD [wd c 21] [evV c] (.str nm) = some .ok) (hv : lookP [wd c 21] [evV c] [] 14 v [wd c 10, wd c 11, wd c 12] 1 = some D) : funD [wd c 21] [evV c] (fnT c nm v) = some D := by
  refine fun_of h none_pairs rfl none_bnds ?_
  rw [pars_tail hc ht, hv]
theorem progD_ok {t : Txt} {r rest : List Val} {eks : List Txt} {exs : List Val} (h : funD eks exs (.tup (.str t :: r)) = some .ok) : progD (.tup (.str t :: r) :: rest) eks exs = progD rest (putD t (.tup (.str t :: r)) eks exs).1 (putD t (.tup (.str t :: r)) eks exs).2 := by
  simp only [progD, h]
theorem progD_no {f : Val} {rest : List Val} {eks : List Txt} {exs : List Val} {D : Vd} (h : funD eks exs f = some D) (hD : D ≠ .ok) : progD (f :: rest) eks exs = some (D, eks, exs) := by
  unfold progD
  rw [h]
  cases D <;> first | exact (hD rfl).elim | rfl
theorem prog_two {c : Cst} (hc : Cok c) (ht : c.talk = 0) {nm : Txt} {v : Val} {D : Vd} (h : funD [wd c 21] [evV c] (fnT c nm v) = some D) (hne : nm ≠ wd c 21 ∨ D ≠ .ok) :
    ∃ ks xs, progT [evV c, fnT c nm v] = some (D, ks, xs) ∧ (D = .ok → ks = [wd c 21, nm] ∧ xs = [evV c, fnT c nm v]) := by
  have e1 : progT [evV c, fnT c nm v] = progD [fnT c nm v] [wd c 21] [evV c] := by
    show progD [evV c, fnT c nm v] [] [] = _
    exact progD_ok (ev_fun hc ht)
  rw [e1]
  by_cases hD : D = .ok
  · subst hD
    have hn := hne.resolve_right (fun q => q rfl)
    refine ⟨[wd c 21, nm], [evV c, fnT c nm v], ?_, fun _ => ⟨rfl, rfl⟩⟩
    rw [show fnT c nm v = .tup (.str nm :: [.tup [], .tup (parsV c), kN, v]) from rfl] at h ⊢
    rw [progD_ok h]
    have hk : nm ∉ [wd c 21] := by simpa using hn
    simp only [putD, if_neg hk]
    rfl
  · exact ⟨_, _, progD_no h hD, fun q => (hD q).elim⟩
/-- a name: good or not -/
def NmP (c : Cst) (nm : Txt) (g : Bool) : Prop := headD [wd c 21] [evV c] (.str nm) = some (if g = true then .ok else .prog) ∧ (g = true → nm ≠ wd c 21) ∧ nm.length ≤ 9
theorem nm_word {c : Cst} (hc : Cok c) (ht : c.talk = 0) : NmP c (wd c 20) true := by
  have sm : ∀ k, isWs smallT (wd c k) = true := fun k => word_small (wd_word hc k)
  have ne : wd c 20 ≠ wd c 21 := fun e => by have := wd_inj hc ht (by decide) (by decide) e; omega
  have := wd_noSz hc ht 20
  refine ⟨?_, fun _ => ne, by have := (wd_word hc 20).len; omega⟩
  simp [headD, isWV, sm, this, look, ne.symm]
theorem nm_size {c : Cst} {w : Txt} (h : w ∈ sizesK) : NmP c w false := by
  have key : ∀ w ∈ sizesK, isWs smallT w = true ∧ (look w sizesK sizesX).isSome = true ∧ w.length ≤ 9 := by decide
  obtain ⟨h1, h2, h3⟩ := key w h
  refine ⟨?_, nofun, h3⟩
  simp [headD, isWV, h1, h2]
theorem nm_long {c : Cst} {w : Txt} (h : w.length = 9) : NmP c w false := by
  refine ⟨?_, nofun, by omega⟩
  have : isWs smallT w = false := by simp [isWs, h]
  simp [headD, isWV, this]
theorem fn_verdict {c : Cst} (hc : Cok c) (ht : c.talk = 0) {nm : Txt} {v : Val} {m : Nat} {b g : Bool} (hn : NmP c nm g) (hv : PartP (wd c 21) (evV c) (wd c 10) m b v) (hm : m < 100) :
    ∃ ks xs, progT [evV c, fnT c nm v] = some (if (decide (m ≤ 11) && g && b) = true then .ok else .prog, ks, xs) ∧ ((decide (m ≤ 11) && g && b) = true → ks = [wd c 21, nm] ∧ xs = [evV c, fnT c nm v]) := by
  cases g with
  | false =>
    obtain ⟨ks, xs, h1, _⟩ := prog_two hc ht (fn_bad (v := v) hn.1) (.inr (by simp))
    refine ⟨ks, xs, ?_, by simp⟩
    simpa using h1
  | true =>
    have hl := hv.look 14 [wd c 10, wd c 11, wd c 12] 1 (.inr (by decide)) (by decide) (by simp) (by decide)
    have e : decide ((1 : Int) + (m : Int) ≤ 12) = decide (m ≤ 11) := by
      by_cases q : m ≤ 11
      · rw [decide_eq_true q, decide_eq_true (by omega)]
      · rw [decide_eq_false q, decide_eq_false (by omega)]
    rw [e] at hl
    obtain ⟨ks, xs, h1, h2⟩ := prog_two hc ht (fn_good hc ht hn.1 hl) (.inl (hn.2.1 rfl))
    refine ⟨ks, xs, by simpa using h1, fun z => h2 ?_⟩
    rw [if_pos (by simpa using z)]
/-- a leaf, good or not -/
def LfP (c : Cst) (lf : Val) (b : Bool) : Prop := PartP (wd c 21) (evV c) (wd c 10) 0 b lf ∧ dvB 4 lf = true ∧ ((∃ i : Int, lf = .tup [.str wNum, .int i] ∧ b = decide ((if i < 0 then -i else i) < 10 ^ 30)) ∨ (∃ w x, lf = .tup [.str w, x] ∧ w ≠ wNum ∧ b = true))
theorem leaf_part {e : Txt} {ev : Val} {p0 : Txt} {w : Txt} {x : Val} {b : Bool} (hz : szOf w = some 2) (hp : partsOf w [x] = some []) (hc : ∀ names, p0 ∈ names → chkD [e] [ev] [] names w [x] = some (if b = true then .ok else .prog)) (hx : puV 10 x = true) : PartP e ev p0 0 b (.tup [.str w, x]) := by
  refine ⟨fun n names d hn hn1 hp0 hd => ?_, ?_⟩
  · obtain ⟨n, rfl⟩ : ∃ m, n = m + 1 := ⟨n - 1, by omega⟩
    by_cases q : 12 < d
    · have q2 : ¬ d + ((0 : Nat) : Int) ≤ 12 := by omega
      rw [decide_eq_false q2]
      simp only [lookP, q, if_true]
      rfl
    · have q2 : d + ((0 : Nat) : Int) ≤ 12 := by omega
      rw [decide_eq_true q2]
      simp only [lookP, q, if_false, hz, hp, hc names hp0, List.length_cons, List.length_nil, if_true]
      cases b <;> rfl
  · exact puT (b := 10) (by simp only [List.forall_mem_cons]; exact ⟨rfl, hx, fun _ h => nomatch h⟩) (by simp)
theorem lf_num {c : Cst} {i : Int} : LfP c (.tup [.str wNum, .int i]) (decide ((if i < 0 then -i else i) < 10 ^ 30)) := by
  refine ⟨leaf_part rfl rfl (fun _ _ => ?_) rfl, rfl, .inl ⟨i, rfl, rfl⟩⟩
  show numD (.int i) = _
  simp only [numD]
  congr 1
  by_cases h : -(10 ^ 30 : Int) < i ∧ i < 10 ^ 30
  · rw [if_pos h, if_pos]
    have : (if i < 0 then -i else i) < (10 ^ 30 : Int) := by split <;> omega
    exact decide_eq_true this
  · rw [if_neg h, if_neg]
    have : ¬ (if i < 0 then -i else i) < (10 ^ 30 : Int) := by split <;> omega
    rw [decide_eq_false this]; simp
theorem lf_text {c : Cst} {t : Txt} (h : t.length ≤ 3) (h2 : t.all (fun c => decide (c ∈ signsT)) = true) : LfP c (.tup [.str wText, .str t]) true := by
  refine ⟨leaf_part rfl rfl (fun _ _ => ?_) rfl, rfl, .inr ⟨_, _, rfl, by decide, rfl⟩⟩
  show textD (.str t) = _
  simp only [textD]
  rw [if_pos (by omega), if_pos h2]; rfl
theorem lf_name {c : Cst} : LfP c (.tup [.str wName, .str (wd c 10)]) true := by
  refine ⟨leaf_part rfl rfl (fun names h => ?_) rfl, rfl, .inr ⟨_, _, rfl, by decide, rfl⟩⟩
  unfold chkD
  rw [if_neg (by decide), if_neg (by decide), if_neg (by decide), if_pos (by decide)]
  have e1 : ¬ wName = wIs := by decide
  have e2 : ¬ wName = wHas := by decide
  simp only [nameD, inS, h, decide_true, e1, e2, if_false, if_true]
theorem lf_nor {c : Cst} : LfP c (.tup [.str wNorow, kN]) true := ⟨leaf_part rfl rfl (fun _ _ => rfl) rfl, rfl, .inr ⟨_, _, rfl, by decide, rfl⟩⟩
theorem lf_nob {c : Cst} : LfP c (.tup [.str wNobook, kN]) true := ⟨leaf_part rfl rfl (fun _ _ => rfl) rfl, rfl, .inr ⟨_, _, rfl, by decide, rfl⟩⟩
end Mi
namespace Mi
local macro_rules | `(tactic| array_mem_dec) => `(tactic| repeat (first | (with_reducible apply t_seq) | (with_reducible apply t_skip) | (with_reducible apply t_asg) | (with_reducible apply t_ret) | (with_reducible apply t_expr) | (with_reducible apply t_put) | (with_reducible apply t_ite) | (with_reducible apply t_for) | (with_reducible apply t_asgT) | (with_reducible apply t_setf) | (with_reducible apply t_raise) | (with_reducible apply t_retN) | (with_reducible apply t_brk) | (with_reducible apply t_cont) | ((with_reducible apply v_var); rfl) | ((with_reducible apply b_var); rfl) | ((with_reducible apply i_var); rfl) | ((with_reducible apply v_glb); first | assumption | rfl) | (with_reducible apply v_fld) | (with_reducible apply v_meth) | (with_reducible apply b_fld) | (with_reducible apply b_meth) | (with_reducible apply i_fld) | (with_reducible apply i_meth) | (with_reducible apply v_lit) | (with_reducible apply v_ix) | (with_reducible apply v_bin) | (with_reducible apply v_cmp) | (with_reducible apply v_call) | (with_reducible apply v_tup) | (with_reducible apply v_lst) | (with_reducible apply v_new) | (with_reducible apply v_fn) | (with_reducible apply v_isi) | (with_reducible apply v_mt) | (with_reducible apply v_and) | (with_reducible apply v_or) | (with_reducible apply v_not) | (with_reducible apply v_ite) | (with_reducible apply v_neg) | (with_reducible apply v_chain) | (with_reducible apply v_isN) | (with_reducible apply v_isB) | (with_reducible apply v_lc) | (with_reducible apply a_cons) | (with_reducible apply a_nil) | (with_reducible apply b_cmp) | (with_reducible apply b_and) | (with_reducible apply b_or) | (with_reducible apply b_not) | (with_reducible apply b_call) | (with_reducible apply b_isi) | (with_reducible apply b_lit) | (with_reducible apply b_isN) | (with_reducible apply b_isB) | (with_reducible apply b_chain) | (with_reducible apply b_mt) | (with_reducible apply b_fn) | (with_reducible apply i_rng) | (with_reducible apply i_ix) | (with_reducible apply i_fn) | (with_reducible apply i_call) | (with_reducible apply i_bin) | (with_reducible apply i_lst) | (with_reducible apply i_sortK) | (with_reducible apply i_tup) | (with_reducible apply i_lc) | (with_reducible apply v_dcpy) | (with_reducible apply v_lnew) | (with_reducible apply v_dget) | (with_reducible apply v_kin) | (with_reducible apply v_kix) | (with_reducible apply b_kin) | (with_reducible apply ie_t0) | (with_reducible apply ie_t1) | (with_reducible apply ie_t2) | (with_reducible apply ie_t3) | (with_reducible apply ie_t4) | (with_reducible apply ie_t5) | (with_reducible apply ie_t6) | refine ⟨Nat.le_of_ble_eq_true rfl, ?_⟩ | refine ⟨_, rfl, ?_⟩))
def wsL : List Txt := [[110, 117, 109], [116, 101, 120, 116], [110, 97, 109, 101], [114, 111, 119], [110, 111, 114, 111, 119], [110, 111, 98, 111, 111, 107], [115, 104, 97, 112, 101], [103, 101, 116], [112, 108, 117, 115], [109, 105, 110, 117, 115], [106, 111, 105, 110], [115, 105, 122, 101], [112, 117, 115, 104], [97, 116], [112, 117, 116], [108, 111, 111, 107], [108, 101, 116], [101, 97, 99, 104], [102, 111, 108, 100], [105, 102], [105, 115], [104, 97, 115], [99, 97, 108, 108]]
theorem wsL_sz {w : Txt} (h : w ∈ wsL) : w ∈ sizesK := by
  have : ∀ w ∈ wsL, w ∈ sizesK := by decide
  exact this w h
/-- a name, as the law tells whether it is good -/
def NmG (c : Cst) (nm : Txt) (g : Bool) : Prop := NmP c nm g ∧ (g = (decide (nm ∉ wsL) && decide (nm.length ≤ 8)))
theorem ng_word {c : Cst} (hc : Cok c) (ht : c.talk = 0) : NmG c (wd c 20) true := by
  refine ⟨nm_word hc ht, ?_⟩
  have h1 := (wd_word hc 20).len
  have h2 : wd c 20 ∉ wsL := fun h => by
    have := wd_noSz hc ht 20
    have h3 : ∀ w ∈ sizesK, (look w sizesK sizesX).isSome = true := by decide
    rw [h3 _ (wsL_sz h)] at this; cases this
  simp [h1, h2]
theorem ng_size {c : Cst} {w : Txt} (h : w ∈ wsL) : NmG c w false := ⟨nm_size (wsL_sz h), by simp [h]⟩
theorem ng_long {c : Cst} {w : Txt} (h : w.length = 9) : NmG c w false := ⟨nm_long h, by simp [h]⟩
theorem good51 {C : Itp} {η : Env} {st : Store} {E : Exn → Store → Prop} {Q : Val → Store → Prop} {m : Nat} {nm : Txt} {g : Bool} (h10 : η[10]? = some (some (.int m))) (h13 : η[13]? = some (some (.str nm))) (h11 : η[11]? = some (some (.lst (wsL.map .str)))) (hg : g = (decide (nm ∉ wsL) && decide (nm.length ≤ 8))) (q : Q (.bl (decide (m ≤ 11) && g)) st) :
    RetX E (V C (.and (.cmp .le (.var 10) (.lit (.int 11))) (.and (.cmp .notin (.var 13) (.var 11)) (.cmp .le (.fn .len (.cons (.var 13) .nil)) (.lit (.int 8))))) η st) Q := by
  refine v_and (v_cmp (v_var h10 (v_lit ⟨_, rfl, _, rfl, fun e => ?_, fun e => ?_⟩)))
  · have e : m ≤ 11 := by have := of_decide_eq_true e; omega
    rw [decide_eq_true e, Bool.true_and] at q
    have hin : cmpV st .notin (.str nm) (.lst (wsL.map .str)) = some (!decide (nm ∈ wsL)) := by
      show (inV' st (.str nm) (wsL.map .str)).map (!·) = _
      rw [in_strs']; rfl
    refine v_and (v_cmp (v_var h13 (v_var h11 ⟨_, hin, _, rfl, fun e => ?_, fun e => ?_⟩)))
    · have e : nm ∉ wsL := by simpa using e
      rw [decide_eq_true e, Bool.true_and] at hg
      refine v_cmp (v_fn (a_cons (v_var h13 (a_nil ⟨_, rfl, v_lit ⟨_, rfl, ?_⟩⟩))))
      have : decide (((nm.length : Nat) : Int) ≤ 8) = decide (nm.length ≤ 8) := by
        by_cases z : nm.length ≤ 8
        · rw [decide_eq_true z, decide_eq_true (by omega)]
        · rw [decide_eq_false z, decide_eq_false (by omega)]
      rw [this, ← hg]; exact q
    · have e : nm ∈ wsL := by simpa using e
      have : g = false := by rw [hg]; simp [e]
      rw [this] at q; exact q
  · have e : ¬ m ≤ 11 := by have := of_decide_eq_false e; omega
    rw [decide_eq_false e, Bool.false_and] at q
    exact q
theorem good52 {C : Itp} {η : Env} {st : Store} {E : Exn → Store → Prop} {Q : Val → Store → Prop} {leaf : Val} {g b : Bool} (h15 : η[15]? = some (some (.bl g))) (h8 : η[8]? = some (some leaf)) (h6 : η[6]? = some (some (.int (10 ^ 30))))
    (hl : (∃ i : Int, leaf = .tup [.str wNum, .int i] ∧ b = decide ((if i < 0 then -i else i) < 10 ^ 30)) ∨ (∃ w x, leaf = .tup [.str w, x] ∧ w ≠ wNum ∧ b = true)) (q : Q (.bl (g && b)) st) :
    RetX E (V C (.and (.var 15) (.or (.cmp .ne (.ix (.var 8) (.lit (.int 0))) (.lit (.str [110, 117, 109]))) (.cmp .lt (.fn .abs (.cons (.ix (.var 8) (.lit (.int 1))) .nil)) (.var 6)))) η st) Q := by
  refine v_and (v_var h15 ⟨g, rfl, fun e => ?_, fun e => ?_⟩)
  · subst e
    rw [Bool.true_and] at q
    rcases hl with ⟨i, rfl, hb⟩ | ⟨w, x, rfl, hw, rfl⟩
    · refine v_or (v_cmp (v_ix (v_var h8 (v_lit ⟨_, rfl, v_lit ⟨_, rfl, _, rfl, fun _ => ?_, fun z => nomatch z⟩⟩))))
      refine v_cmp (v_fn (a_cons (v_ix (v_var h8 (v_lit ⟨_, rfl, a_nil ⟨_, rfl, v_var h6 ⟨_, rfl, ?_⟩⟩⟩)))))
      rw [← hb]; exact q
    · have e2 : (!eqf (.str w) (.str [110, 117, 109])) = true := by
        have : (w == ([110, 117, 109] : Txt)) = false := beq_false_of_ne hw
        show (!(w == ([110, 117, 109] : Txt))) = true
        rw [this]; rfl
      refine v_or (v_cmp (v_ix (v_var h8 (v_lit ⟨_, rfl, v_lit ⟨_, rfl, _, rfl, fun z => ?_, fun _ => q⟩⟩))))
      rw [e2] at z; cases z
  · subst e
    exact q
theorem plain_law (ns : List Int) (hl : ns.length ≤ 63) : ∃ st', callN prg 60 22 [.lst (ns.map .int)] [] = .ok (.bl true) st' := by
  have R : Ret (callN prg 60 22 [.lst (ns.map .int)] []) fun v _ => v = .bl true := by
    refine call_of (d := d_law) rfl rfl ?_
    simp only [d_law, List.map_cons, List.map_nil, List.length_cons, List.length_nil, List.cons_append, List.nil_append, Nat.reduceAdd, Nat.reduceSub, Nat.zero_add, Nat.add_zero, Nat.sub_self, Nat.sub_zero, List.replicate]
    array_mem_dec
    refine (begun_ok (p := prg) (n := 57) hl rfl rfl).imp fun v st ⟨ev, c, w, hc⟩ => ?_
    subst ev
    obtain ⟨d, h0, ha, rfl⟩ := w
    array_mem_dec
    refine ⟨_, put_dr h0 rfl, ?_⟩
    have g0 := set_get (o' := Dr.ob { d with c := { d.c with talk := 0 } }) h0
    have w : Dw { d.c with talk := 0 } (st.set 0 (Dr.ob { d with c := { d.c with talk := 0 } })) := ⟨_, g0, ha, rfl⟩
    have hc : Cok { d.c with talk := 0 } := ⟨hc.s1, hc.s2, hc.p1, hc.p2, hc.t1, hc.t2, .inl rfl, hc.o, hc.f⟩
    have ht : ({ d.c with talk := 0 } : Cst).talk = 0 := rfl
    change FlP (exec _ _ _ (st.set 0 (Dr.ob { d with c := { d.c with talk := 0 } }))) _
    generalize st.set 0 (Dr.ob { d with c := { d.c with talk := 0 } }) = st1 at *
    generalize ({ d.c with talk := 0 } : Cst) = c at *
    array_mem_dec
    refine ⟨⟨by decide, by decide⟩, ?_⟩
    rw [ckN]
    refine lc_mp (fun x => match x with | .int i => Val.tup [.str (wd c (10 + i.toNat)), kN] | v => v) _ (fun x hx => ?_) (by simp) ?_
    · obtain ⟨k, _, rfl⟩ := List.mem_map.mp hx
      refine ⟨_, rfl, fun _ => rfl, ?_⟩
      array_mem_dec
      rw [show (10 : Int) + (k : Int) = ((10 + k : Nat) : Int) by omega]
      refine (word_ok (p := prg) rfl w hc (10 + k)).imp fun v s' ⟨e, e'⟩ => ?_
      subst e e'
      array_mem_dec
      exact ⟨rfl, rfl⟩
    have fe : List.map (fun x => match x with | .int i => Val.tup [.str (wd c (10 + i.toNat)), kN] | v => v) ((List.range (3 : Int).toNat).map fun (k : Nat) => Val.int k) = parsV c := rfl
    rw [fe]
    array_mem_dec
    refine (word_ok (p := prg) rfl w hc 21).imp fun v s' ⟨e, e'⟩ => ?_
    subst e e'
    array_mem_dec
    refine (taken_ok (p := prg) (n := 58) rfl w (by decide) (by decide)).imp fun v s1 ⟨⟨i1, e1, l1, m1⟩, w1, _⟩ => ?_
    subst e1
    array_mem_dec
    obtain ⟨mv, hmv, emv⟩ := at_nat (xs := [Val.int (10 ^ Int.toNat 30), Val.int (10 ^ Int.toNat 30 - 1), Val.int (0 - 10 ^ Int.toNat 30), Val.int (1 - 10 ^ Int.toNat 30)]) l1 m1
    obtain ⟨iv, rfl⟩ : ∃ iv, mv = .int iv := by
      simp only [List.mem_cons, List.not_mem_nil, or_false] at hmv
      rcases hmv with rfl | rfl | rfl | rfl <;> exact ⟨_, rfl⟩
    clear hmv
    refine ⟨_, emv, ?_⟩
    array_mem_dec
    refine (text_ok (p := prg) rfl rfl 57 s1 w1).imp fun v s2 ⟨⟨t, ev, ht1, ht2⟩, w2⟩ => ?_
    subst ev
    array_mem_dec
    refine (taken_ok (p := prg) (n := 58) rfl w2 (by decide) (by decide)).imp fun v s3 ⟨⟨i3, e3, l3, m3⟩, w3, _⟩ => ?_
    subst e3
    array_mem_dec
    refine (taken_ok (p := prg) (n := 58) rfl w3 (by decide) (by decide)).imp fun v s4 ⟨⟨i4, e4, l4, m4⟩, w4, _⟩ => ?_
    subst e4
    obtain ⟨xv, hxv, exv⟩ := at_nat (xs := [Val.int 0, Val.int (1 + i3)]) l4 m4
    obtain ⟨x, rfl, hx0, hx5⟩ : ∃ x : Int, xv = .int x ∧ 0 ≤ x ∧ x < 5 := by
      simp only [List.mem_cons, List.not_mem_nil, or_false] at hxv
      rcases hxv with rfl | rfl
      · exact ⟨0, rfl, by decide, by decide⟩
      · exact ⟨_, rfl, by omega, by omega⟩
    refine ⟨_, exv, ?_⟩
    array_mem_dec
    obtain ⟨leaf, hleaf, eleaf⟩ := at_nat (xs := [Val.tup [.str wNum, .int iv], .tup [.str wText, .str t], .tup [.str wName, .str (wd c 10)], .tup [.str wNorow, kN], .tup [.str wNobook, kN]]) hx0 hx5
    obtain ⟨b, hlf⟩ : ∃ b, LfP c leaf b := by
      simp only [List.mem_cons, List.not_mem_nil, or_false] at hleaf
      rcases hleaf with rfl | rfl | rfl | rfl | rfl
      · exact ⟨_, lf_num⟩
      · exact ⟨_, lf_text ht1 ht2⟩
      · exact ⟨_, lf_name⟩
      · exact ⟨_, lf_nor⟩
      · exact ⟨_, lf_nob⟩
    clear hleaf
    refine ⟨leaf, eleaf, ?_⟩
    array_mem_dec
    refine (taken_ok (p := prg) (n := 58) rfl w4 (by decide) (by decide)).imp fun v s5 ⟨⟨i5, e5, l5, m5⟩, w5, _⟩ => ?_
    subst e5
    array_mem_dec
    refine (taken_ok (p := prg) (n := 58) rfl w5 (by decide) (by decide)).imp fun v s6 ⟨⟨i6, e6, l6, m6⟩, w6, _⟩ => ?_
    subst e6
    obtain ⟨mv, hmv, emv2⟩ := at_nat (xs := [.int 10, .int 11, .int 12, .int i5]) l6 m6
    obtain ⟨m, rfl, hm⟩ : ∃ m : Nat, mv = .int m ∧ m < 16 := by
      simp only [List.mem_cons, List.not_mem_nil, or_false] at hmv
      rcases hmv with rfl | rfl | rfl | rfl
      · exact ⟨10, rfl, by decide⟩
      · exact ⟨11, rfl, by decide⟩
      · exact ⟨12, rfl, by decide⟩
      · obtain ⟨k, rfl⟩ := Int.eq_ofNat_of_zero_le l5
        exact ⟨k, rfl, by omega⟩
    clear hmv
    refine ⟨_, emv2, ?_⟩
    array_mem_dec
    refine ⟨⟨by omega, by omega⟩, ?_⟩
    rw [ckN]
    obtain ⟨Y7, hY7⟩ : ∃ Y : Val, Y = .lst [Val.tup [.str wNum, .int iv], .tup [.str wText, .str t], .tup [.str wName, .str (wd c 10)], .tup [.str wNorow, kN], .tup [.str wNobook, kN]] := ⟨_, rfl⟩
    refine for_inv (fun k η s => (∃ pv y4 y7, η = [some (.lst (ns.map .int)), some (.loc 0), some kN, some (.tup (parsV c)), y4, some (evV c), some (.int (10 ^ 30)), y7, some leaf, some pv, some (.int m), none, none, none, none, none, none] ∧ PartP (wd c 21) (evV c) (wd c 10) k b pv ∧ dvB (3 * k + 4) pv = true) ∧ Dw c s) ⟨⟨_, _, _, rfl, hlf.1, hlf.2.1⟩, w6⟩ ?_ ?_
    · rintro k x hx η s ⟨⟨pv, y4, y7, rfl, hpv, hdv⟩, ws⟩
      refine ⟨_, rfl, ?_⟩
      array_mem_dec
      refine (deeper_ok (p := prg) hc ht rfl rfl rfl 57 pv (wd c 21) (wd c 10) s ws).imp fun v s7 ⟨⟨j, w, xs, hj, hw, hxs, hmem, ev⟩, w7⟩ => ?_
      subst ev
      array_mem_dec
      refine ⟨⟨_, _, _, rfl, mk_part hc ht hj hpv hw hxs hmem ⟨_, _, _, _, _, _, rfl⟩, ?_⟩, w7⟩
      refine dv_le (mk_dv (n := 3 * k + 3) (fun x hx => ?_) hw) (by omega)
      rcases hxs x hx with rfl | rfl
      · exact hdv
      · exact dv_le (n := 2) rfl (by omega)
    rintro η s ⟨⟨pv, y4, y7, rfl, hpv, hdv⟩, ws⟩
    simp only [List.length_map, List.length_range] at hpv hdv
    rw [show ((m : Int)).toNat = m by omega] at hpv hdv
    array_mem_dec
    refine (word_ok (p := prg) rfl ws hc 20).imp fun v s' ⟨e, e'⟩ => ?_
    subst e e'
    array_mem_dec
    refine (word_ok (p := prg) rfl ws hc 20).imp fun v s' ⟨e, e'⟩ => ?_
    subst e e'
    array_mem_dec
    refine (word_ok (p := prg) rfl ws hc 20).imp fun v s' ⟨e, e'⟩ => ?_
    subst e e'
    array_mem_dec
    refine (taken_ok (p := prg) (n := 58) rfl ws (by decide) (by decide)).imp fun v s8 ⟨⟨i8, e8, l8, m8⟩, w8', _⟩ => ?_
    subst e8
    obtain ⟨wv, hwv, ewv⟩ := at_nat (xs := wsL.map Val.str) l8 m8
    obtain ⟨w8, hw8, rfl⟩ := List.mem_map.mp hwv
    refine ⟨_, ewv, ?_⟩
    array_mem_dec
    refine (taken_ok (p := prg) (n := 58) rfl w8' (by decide) (by decide)).imp fun v s9 ⟨⟨i9, e9, l9, m9⟩, w9, _⟩ => ?_
    subst e9
    array_mem_dec
    obtain ⟨nv, hnv, env⟩ := at_nat (xs := [Val.str (wd c 20), .str (wd c 20), .str (wd c 20), .str w8]) l9 m9
    obtain ⟨nm, g, rfl, hng⟩ : ∃ nm g, nv = .str nm ∧ NmG c nm g := by
      simp only [List.mem_cons, List.not_mem_nil, or_false] at hnv
      rcases hnv with rfl | rfl | rfl | rfl
      · exact ⟨_, _, rfl, ng_word hc ht⟩
      · exact ⟨_, _, rfl, ng_word hc ht⟩
      · exact ⟨_, _, rfl, ng_word hc ht⟩
      · exact ⟨_, _, rfl, ng_size hw8⟩
    refine ⟨_, env, ?_⟩
    refine t_cut (fun η s => (∃ nm g y4 y7 y12, η = [some (.lst (ns.map .int)), some (.loc 0), some kN, some (.tup (parsV c)), y4, some (evV c), some (.int (10 ^ 30)), y7, some leaf, some pv, some (.int m), some (.lst (wsL.map .str)), y12, some (.str nm), none, none, none] ∧ NmG c nm g) ∧ Dw c s) ?_ ?_
    · array_mem_dec
      refine (taken_ok (p := prg) (n := 58) rfl w9 (by decide) (by decide)).imp fun v s10 ⟨⟨i10, e10, l10, m10⟩, w10, _⟩ => ?_
      subst e10
      array_mem_dec
      refine ⟨fun _ => ?_, fun _ => ?_⟩
      · array_mem_dec
        refine (taken_ok (p := prg) (n := 58) rfl w10 (by decide) (by decide)).imp fun v s11 ⟨⟨i11, e11, l11, m11⟩, w11, _⟩ => ?_
        subst e11
        obtain ⟨n11, rfl⟩ := Int.eq_ofNat_of_zero_le l11
        have h8 : ∀ n : Nat, n < 8 → L2.atI [97, 98, 99, 100, 101, 102, 103, 104] (n : Int) = some (97 + n) := by decide
        array_mem_dec
        refine ⟨.str [97 + n11], ?_, ?_⟩
        · show (L2.atI [97, 98, 99, 100, 101, 102, 103, 104] (n11 : Int)).map (fun c => Val.str [c]) = _
          rw [h8 n11 (by omega)]; rfl
        refine ⟨_, add_str (by simp [repT_q]), ?_⟩
        array_mem_dec
        exact ⟨⟨_, false, _, _, _, rfl, ng_long (by simp [repT_q])⟩, w11⟩
      · array_mem_dec
        exact ⟨⟨_, g, _, _, _, rfl, hng⟩, w10⟩
    clear hng
    rintro η s ⟨⟨nm, g, y4, y7, y12, rfl, hng⟩, w12⟩
    refine t_cut (fun η s' => η = [some (.lst (ns.map .int)), some (.loc 0), some kN, some (.tup (parsV c)), y4, some (evV c), some (.int (10 ^ 30)), y7, some leaf, some pv, some (.int m), some (.lst (wsL.map .str)), y12, some (.str nm), some (fnT c nm pv), none, none] ∧ s' = s) ?_ ?_
    · array_mem_dec
      exact ⟨rfl, rfl⟩
    rintro η s' ⟨rfl, rfl⟩
    refine t_seq (t_asg (good51 rfl rfl rfl hng.2 ?_))
    refine t_seq (t_asg (good52 rfl rfl rfl hlf.2.2 ?_))
    obtain ⟨ks, xs, hpr, hks⟩ := fn_verdict hc ht (g := g) hng.1 hpv (by omega)
    have pu : ∀ f ∈ [evV c, fnT c nm pv], puV 900 f = true := by
      simp only [List.forall_mem_cons]
      refine ⟨rfl, ?_, fun _ h => nomatch h⟩
      exact puT (b := 800) (by simp only [List.forall_mem_cons]; exact ⟨rfl, rfl, rfl, rfl, pm hpv.pu (by omega), fun _ h => nomatch h⟩) (by simp)
    cases hG : (decide (m ≤ 11) && g && b) with
    | false =>
      rw [hG] at hpr
      array_mem_dec
      refine iteT' rfl ?_
      array_mem_dec
      refine (refusal_ok (p := prg) rfl rfl rfl rfl rfl rfl rfl rfl rfl rfl rfl rfl rfl rfl rfl rfl rfl rfl rfl rfl rfl rfl rfl rfl rfl rfl 15 _ _ ks xs s' hpr pu).imp fun v' s8 ⟨e1, _⟩ => ?_
      subst e1
      array_mem_dec
      exact rfl
    | true =>
      rw [hG] at hpr
      obtain ⟨rfl, rfl⟩ := hks hG
      array_mem_dec
      refine iteF' rfl ?_
      array_mem_dec
      refine (prog_ok (p := prg) rfl rfl rfl rfl rfl rfl rfl rfl rfl rfl rfl rfl rfl rfl rfl rfl rfl rfl rfl rfl rfl rfl rfl rfl rfl 16 _ _ _ _ s' hpr pu).impX (fun v' s8 ⟨_, e1, _⟩ => ?_) (fun x s ⟨e1, _⟩ => (e1 rfl).elim)
      subst e1
      have hne : nm ≠ wd c 21 := hng.1.2.1 (by
        cases g with
        | true => rfl
        | false => simp at hG)
      have hdf : dvB 53 (fnT c nm pv) = true := dvT (by simp only [List.forall_mem_cons]; exact ⟨rfl, rfl, rfl, rfl, dv_le hdv (by omega), fun _ h => nomatch h⟩)
      array_mem_dec
      refine iteT' rfl ?_
      array_mem_dec
      refine iteT' (by simp [eqf]) ?_
      array_mem_dec
      refine ⟨fnT c nm pv, by simp [ixV, keyOf, look, hne.symm], ?_⟩
      array_mem_dec
      exact ⟨true, dv_self _ 53 60 _ hdf (by decide), rfl⟩
  obtain ⟨v, st', e, rfl⟩ := R.ex
  exact ⟨st', e⟩
end Mi
set_option maxHeartbeats 0
namespace Mi
open PySem L2 PySem.Spec PyProof.Rows
def top (i : Nat) : Stmt := PySem.Challenge.pw_soothcheck_k51_parts_as_deep_as_may_be.main.body.getD i (.Pass ⟨0, 0, 0, 0⟩)
def mtop (i j : Nat) : Stmt := match top i with
  | .ClassDef _ _ _ b .. => b.getD j (.Pass ⟨0, 0, 0, 0⟩)
  | s => s
def srcs : List Src := [⟨d_is_word, top 10⟩, ⟨d_good_fields, top 11⟩, ⟨d_need_kind, top 12⟩, ⟨d_look_through, top 13⟩, ⟨d_parts_of, top 21⟩, ⟨d_must, top 22⟩, ⟨d_Scope___init__, mtop 23 0⟩, ⟨d_Scope_look, mtop 23 1⟩, ⟨d_Scope_look_plain, mtop 23 2⟩, ⟨d_Scope_look_new, mtop 23 3⟩, ⟨d_Scope_look_name, mtop 23 4⟩, ⟨d_Scope_look_call, mtop 23 5⟩, ⟨d_Scope, mtop 23 0⟩, ⟨d_need_pairs, top 24⟩, ⟨d_need_function, top 25⟩, ⟨d_need_program, top 26⟩, ⟨d_law_begun, top 28⟩, ⟨d_law_taken, top 29⟩, ⟨d_law_word, top 30⟩, ⟨d_law_text, top 31⟩, ⟨d_law_refusal, top 32⟩, ⟨d_law_deeper, top 33⟩, ⟨d_law, top 34⟩]
theorem bds : BdAll prg srcs := ⟨.inr fun _ _ _ _ _ _ us hl => match us, hl with | [_, _], _ => rfl,
  .inr fun _ _ _ _ _ _ us hl => match us, hl with | [_], _ => rfl,
  .inr fun _ _ _ _ _ _ us hl => match us, hl with | [_, _], _ => rfl,
  .inr fun _ _ _ _ _ _ us hl => match us, hl with | [_, _, _], _ => rfl,
  .inr fun _ _ _ _ _ _ us hl => match us, hl with | [_], _ => rfl,
  .inr fun _ _ _ _ _ _ us hl => match us, hl with | [_], _ => rfl,
  .inr fun _ _ _ _ _ _ us hl => match us, hl with | [_, _, _], _ => rfl,
  .inr fun _ _ _ _ _ _ us hl => match us, hl with | [_, _, _, _], _ => rfl,
  .inr fun _ _ _ _ _ _ us hl => match us, hl with | [_, _], _ => rfl,
  .inr fun _ _ _ _ _ _ us hl => match us, hl with | [_, _], _ => rfl,
  .inr fun _ _ _ _ _ _ us hl => match us, hl with | [_, _, _], _ => rfl,
  .inr fun _ _ _ _ _ _ us hl => match us, hl with | [_, _], _ => rfl,
  .inl rfl,
  .inr fun _ _ _ _ _ _ us hl => match us, hl with | [_, _], _ => rfl,
  .inr fun _ _ _ _ _ _ us hl => match us, hl with | [_, _], _ => rfl,
  .inr fun _ _ _ _ _ _ us hl => match us, hl with | [_], _ => rfl,
  .inr fun _ _ _ _ _ _ us hl => match us, hl with | [_], _ => rfl,
  .inr fun _ _ _ _ _ _ us hl => match us, hl with | [_, _], _ => rfl,
  .inr fun _ _ _ _ _ _ us hl => match us, hl with | [_, _], _ => rfl,
  .inr fun _ _ _ _ _ _ us hl => match us, hl with | [_], _ => rfl,
  .inr fun _ _ _ _ _ _ us hl => match us, hl with | [_], _ => rfl,
  .inr fun _ _ _ _ _ _ us hl => match us, hl with | [_, _, _, _], _ => rfl,
  .inr fun _ _ _ _ _ _ us hl => match us, hl with | [_], _ => rfl, trivial⟩
theorem oks : srcs.all (Src.okB prg) = true := by decide +kernel
end Mi
namespace Mi
open PySem L2 PySem.Spec PyProof.Rows
abbrev RR : PySem.W.OpenRow := PySem.W.OpenLaw.row PySem.Challenge.rw_soothcheck_k51_parts_as_deep_as_may_be
def tfs : List Txt := []
abbrev tfD : List He.Defn := tfs.map fun t => (tx t, none)
abbrev hk : PySem.W.Hook := He.hookX 6 (faOf prg srcs) (dds prg srcs) (tabs prg) tfD (exB prg)
def ob (s : PySem.W.SharedT) : He.AlX := He.obsX 6 (faOf prg srcs) (dds prg srcs) (tabs prg) tfD (exB prg) (HandSHeadRun.getT s)
theorem ob_eq (s : PySem.W.SharedT) : ob s = hk.obs s.abs := He.obsX_eq (HandSHeadRun.getT_eq s)
def loose : List Str := (["SoothError", "BadKind", "BadProgram", "NoName", "TwiceTold", "SMALL", "GREAT", "MOST_DEEP", "is_word", "good_fields", "need_kind", "look_through", "SIZES", "HEADS", "SIGNS", "MOST_FUNCTIONS", "MOST_PARTS_DEEP", "GREATEST", "parts_of", "must", "Scope", "need_pairs", "need_function", "need_program", "_law_begin", "_law_taken", "_law_a_word", "_law_a_text", "_law_refusal", "_law_deeper"] : List Str)
theorem runF (w : World) : HandSHeadRun.RunEq RR (PySem.W.view RR.prog [34]) hk ob 4000 loose (w.withFollow "special-get-raises" false) := by
  intro os
  kernel_rfl
theorem runT (w : World) : HandSHeadRun.RunEq RR (PySem.W.view RR.prog [34]) hk ob 4000 loose (w.withFollow "special-get-raises" true) := by
  intro os
  kernel_rfl
theorem run (w : World) : HandSHeadRun.RunEq RR (PySem.W.view RR.prog [34]) hk ob 4000 loose w := by
  exact PySem.W.byRow2 "special-get-raises" (P := fun w => HandSHeadRun.RunEq RR (PySem.W.view RR.prog [34]) hk ob 4000 loose w) runF runT w
end Mi
open PySem PySem.W PySem.Calls PyProof.Rows
theorem PySem.Challenge.cw_soothcheck_k51_parts_as_deep_as_may_be_holds : PySem.Challenge.rw_soothcheck_k51_parts_as_deep_as_may_be.Holds := by
  w_on; o_law
  refine HandSHeadRun.head_any (r := Mi.RR) (q := view Mi.RR.prog [34]) (H := Mi.hk) (ob := Mi.ob) (M := 4000) (loose := Mi.loose) (d := HandSHeadRun.topDef Mi.RR.prog 34) (kwd := [])
    Mi.ob_eq (by kernel_rfl) (fun s => by kernel_rfl) Mi.run (by kernel_rfl) (by kernel_rfl) (by kernel_rfl) (by rfl) (by first | assumption | decide +kernel)
    (by decide +kernel) ⟨rfl, rfl, rfl, rfl, rfl, by decide +kernel⟩ ?hw ?hc
  case hw => w_witness2
  case hc =>
    exact Mi.walk_end (l := PySem.Challenge.rw_soothcheck_k51_parts_as_deep_as_may_be) (p := Mi.prg) (ss := Mi.srcs) (n := 6) (N := 59) (f := 22) (df := Mi.d_law) (x := [95, 108, 97, 119, 95, 115, 99, 114, 105, 112, 116])
      rfl (by kernel_rfl) ⟨rfl, by decide, by decide⟩ rfl rfl rfl (by kernel_rfl) rfl Mi.oks Mi.bds (tf := Mi.tfs) (by decide) (by decide +kernel) Mi.plain_law
