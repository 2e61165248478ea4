import PyProof.Rows.All
import Wide.All
import OpenK.AllK
import Wide.FinOn
import KE.KStateDown
import KE.KEqNest
import KE.KLam
import KE.SortKeyHeap
import Lean
import HandS.Base
import HandS.Call
import HandS.Ends
import HandS.More
import HandS.Words
import HandS.WordsExc
import HandS.Defaults
import HandS.Head0
import HandS.Head1
import HandS.Head2
import HandS.HeadEnd
import HandS.HeadHook1
import HandS.HeadHook2
import HandS.HeadHook4
import HandS.HeadWalk
import HandS.EndTab
import HandS.Lambda
import HandS.More
import HandS.ForMost
import HandS.IsInst
import HandS.Wide
import HandS.Exc
import HandS.Conv
import HandS.EndBits
import HandS.TupAny
import HandS.DeepEq
import HandS.DictEq
import HandS.Strs
import PySem.Challenge.RW_soothcheck_k08_kinds_narrowed
set_option Elab.async false
set_option linter.all false
set_option maxRecDepth 100000
set_option maxHeartbeats 2000000
namespace Mi
open PySem L2

/-! values, objects, results -/
abbrev Txt := List Nat
def tx (s : Txt) : Str := ⟨s.toArray⟩
def tk (s : Txt) : Key := .inr (tx s)
theorem tx_inj {a b : Txt} (h : tx a = tx b) : a = b := by
  have := congrArg (fun s : Str => s.cps.toList) h
  simpa [tx] using this
theorem tx_eq {a b : Txt} : tx a = tx b ↔ a = b := ⟨tx_inj, fun h => by rw [h]⟩
theorem tx_len (a : Txt) : (tx a).length = a.length := by show a.toArray.size = _; simp
theorem tx_app (a b : Txt) : tx a ++ tx b = tx (a ++ b) := by
  show (⟨a.toArray ++ b.toArray⟩ : Str) = ⟨(a ++ b).toArray⟩
  simp
theorem tx_list (a : Txt) : (tx a).cps.toList = a := by simp [tx]
theorem tx_of (s : Str) : tx s.cps.toList = s := by cases s; simp [tx]
theorem tk_inj {a b : Txt} (h : tk a = tk b) : a = b := tx_inj (Sum.inr.inj h)

inductive Val where
  | non | bl (b : Bool) | int (i : Int) | str (s : Txt)
  | tup (xs : List Val) | lst (xs : List Val) | dct (ks : List Txt) (xs : List Val) | loc (n : Nat)

inductive Ob where
  | lst (xs : List Val) | dct (ks : List Txt) (xs : List Val) | ins (c : Nat) (ks : List Txt) (xs : List Val) | dead
abbrev Store := List Ob

structure Exn where
  c : Nat
  ks : List Txt
  xs : List Val

inductive Res (α : Type) where
  | ok (a : α) (st : Store) | ex (e : Exn) (st : Store) | no
def Res.bind {α β : Type} (r : Res α) (f : α → Store → Res β) : Res β := match r with
  | .ok a st => f a st
  | .ex e st => .ex e st
  | .no => .no

/-- the written part, the own classes' addresses -/
structure Gd where
  K : PySem.W.Frag
  ca : Nat → Addr
  xc : Nat → Value
  tb : List (Addr × Str)

/-- a written tuple, a written list -/
def KTup (K : PySem.W.Frag) (a : Addr) (xs : List V) : Prop :=
  ∃ (o : Obj) (its : Array Value) (n : Nat), K.lookup a = some o ∧ o.cls = .type "tuple" ∧ o.data = .seq its n ∧ its.size ≤ sizeLine ∧ Vals xs its.toList
def KLst (K : PySem.W.Frag) (a : Addr) (xs : List V) : Prop :=
  ∃ (o : Obj) (its : Array Value) (n : Nat), K.lookup a = some o ∧ o.cls = .type "list" ∧ o.dict = none ∧ o.data = .seq its n ∧ its.size ≤ sizeLine ∧ Vals xs its.toList
section
variable (g : Gd) (ρ : List Addr) (H : Hp)
def KsOk (ks : List Txt) : Prop := ∀ k ∈ ks, k.length ≤ sizeLine
mutual
def Rel : Val → V → Prop
  | .non, v => v = .non
  | .bl b, v => v = .bl b
  | .int i, v => v = .int i
  | .str s, v => v = .str (tx s) ∧ s.length ≤ sizeLine
  | .tup xs, v => ∃ a vs, v = .ref a ∧ (H a = some (.tup vs) ∨ KTup g.K a vs) ∧ xs.length ≤ sizeLine ∧ Rels xs vs
  | .lst xs, v => ∃ a vs, v = .ref a ∧ ((∃ o, H a = some (.frz o (.lst vs))) ∨ KLst g.K a vs) ∧ xs.length ≤ sizeLine ∧ Rels xs vs
  | .dct ks xs, v => ∃ a kvs, v = .ref a ∧ (∃ o, H a = some (.frz o (.dK kvs))) ∧ xs.length ≤ sizeLine ∧ (kvs.map (·.1) = ks.map tk ∧ KsOk ks) ∧ Rels xs (kvs.map (·.2))
  | .loc n, v => ∃ a, v = .ref a ∧ ρ[n]? = some a
def Rels : List Val → List V → Prop
  | [], vs => vs = []
  | x :: xs, vs => ∃ v r, vs = v :: r ∧ Rel x v ∧ Rels xs r
end
/-- an object of the store at its address -/
def ObR : Ob → Addr → Prop
  | .lst xs, a => ∃ vs, H a = some (.lst vs) ∧ xs.length ≤ sizeLine ∧ Rels g ρ H xs vs
  | .dct ks xs, a => ∃ kvs, H a = some (.dK kvs) ∧ xs.length ≤ sizeLine ∧ (kvs.map (·.1) = ks.map tk ∧ KsOk ks) ∧ Rels g ρ H xs (kvs.map (·.2))
  | .ins c ks xs, a => ∃ dx kvs, H a = some (.ins (g.ca c) dx kvs) ∧ kvs.map (·.1) = ks.map tx ∧ Rels g ρ H xs (kvs.map (·.2))
  | .dead, a => ∃ o u, H a = some (.frz o u)
end

/-- the table at P: a table of code, none of the store's; each code object of it bears the name q -/
def TabW (ρ : List Addr) (H : Hp) (P : Addr) (q : Str) : Prop := P ∉ ρ ∧ ∃ ps : Array Value, H P = some (.tbl ps) ∧ TriplesOk ps.toList ∧ ∀ (pos : Pos) (cv : Value), codeAmong pos ps.toList = some cv → ∃ c, cv = .ref c ∧ c ∉ ρ ∧ H c = some (LamX.CodeO c q)
theorem TabW.mono {ρ ρ' : List Addr} {H H' : Hp} {P : Addr} {q : Str} (t : TabW ρ H P q) (k : ∀ b o, H b = some o → b ∉ ρ → H' b = some o ∧ b ∉ ρ') : TabW ρ' H' P q := by
  obtain ⟨h0, ps, h1, h2, h3⟩ := t
  obtain ⟨k1, k2⟩ := k _ _ h1 h0
  refine ⟨k2, ps, k1, h2, fun pos cv hc => ?_⟩
  obtain ⟨c, e, n, hc⟩ := h3 pos cv hc
  obtain ⟨k3, k4⟩ := k _ _ hc n
  exact ⟨c, e, k4, k3⟩
structure Wd (g : Gd) (ρ : List Addr) (st : Store) (H : Hp) : Prop where
  len : ρ.length = st.length
  nd : ρ.Nodup
  ob : ∀ (n : Nat) o a, st[n]? = some o → ρ[n]? = some a → ObR g ρ H o a
  tb : ∀ q ∈ g.tb, TabW ρ H q.1 q.2

structure Ext0 (ρ : List Addr) (H : Hp) (ρ' : List Addr) (H' : Hp) : Prop where
  pre : ∃ m, ρ' = ρ ++ m
  tup : ∀ a xs, H a = some (.tup xs) → H' a = some (.tup xs)
  frz : ∀ a o u, H a = some (.frz o u) → H' a = some (.frz o u)
structure Ext (ρ : List Addr) (H : Hp) (ρ' : List Addr) (H' : Hp) : Prop where
  pre : ∃ m, ρ' = ρ ++ m
  tup : ∀ a xs, H a = some (.tup xs) → H' a = some (.tup xs)
  frz : ∀ a o u, H a = some (.frz o u) → H' a = some (.frz o u)
  keep : ∀ a o, H a = some o → (∀ ps, o ≠ .tbl ps) → a ∉ ρ → H' a = some o ∧ a ∉ ρ'

section
variable {g : Gd} {ρ ρ' ρ'' : List Addr} {H H' H'' : Hp} {st st' : Store}
theorem Ext.to0 (e : Ext ρ H ρ' H') : Ext0 ρ H ρ' H' := ⟨e.pre, e.tup, e.frz⟩
theorem Ext.refl : Ext ρ H ρ H := ⟨⟨[], by simp⟩, fun _ _ h => h, fun _ _ _ h => h, fun _ _ h _ n => ⟨h, n⟩⟩
theorem Ext.trans (a : Ext ρ H ρ' H') (b : Ext ρ' H' ρ'' H'') : Ext ρ H ρ'' H'' :=
  ⟨by obtain ⟨m, rfl⟩ := a.pre; obtain ⟨k, rfl⟩ := b.pre; exact ⟨m ++ k, by simp⟩,
   fun x o h => b.tup x o (a.tup x o h), fun x o u h => b.frz x o u (a.frz x o u h), fun x o h t n => let ⟨h1, n1⟩ := a.keep x o h t n; b.keep x o h1 t n1⟩
theorem sqT_of {a : Addr} {vs : List V} (h : H a = some (.tup vs) ∨ KTup g.K a vs) : SqT g.K H a vs := by
  rcases h with h | h
  · exact .inl (.inl h)
  · exact .inr h
theorem sqL_of {a : Addr} {vs : List V} (h : (∃ o, H a = some (.frz o (.lst vs))) ∨ KLst g.K a vs) : SqL g.K H a vs := by
  rcases h with h | h
  · exact .inl (.inr h)
  · exact .inr h
mutual
theorem Rel.ext0 (e : Ext0 ρ H ρ' H') : ∀ (x : Val) (v : V), Rel g ρ H x v → Rel g ρ' H' x v
  | .non, _, h => by simpa only [Rel] using h
  | .bl _, _, h => by simpa only [Rel] using h
  | .int _, _, h => by simpa only [Rel] using h
  | .str _, _, h => by simpa only [Rel] using h
  | .tup xs, v, h => by
    simp only [Rel] at h ⊢
    obtain ⟨a, vs, rfl, h1, h2, h3⟩ := h
    refine ⟨a, vs, rfl, ?_, h2, Rels.ext0 e xs vs h3⟩
    rcases h1 with h1 | h1
    · exact .inl (e.tup _ _ h1)
    · exact .inr h1
  | .lst xs, v, h => by
    simp only [Rel] at h ⊢
    obtain ⟨a, vs, rfl, h1, h2, h3⟩ := h
    refine ⟨a, vs, rfl, ?_, h2, Rels.ext0 e xs vs h3⟩
    rcases h1 with ⟨o, h1⟩ | h1
    · exact .inl ⟨o, e.frz _ _ _ h1⟩
    · exact .inr h1
  | .dct ks xs, v, h => by
    simp only [Rel] at h ⊢
    obtain ⟨a, kvs, rfl, ⟨o, h1⟩, h2, h3, h4⟩ := h
    exact ⟨a, kvs, rfl, ⟨o, e.frz _ _ _ h1⟩, h2, h3, Rels.ext0 e xs _ h4⟩
  | .loc n, v, h => by
    simp only [Rel] at h ⊢
    obtain ⟨a, rfl, h⟩ := h
    obtain ⟨m, rfl⟩ := e.pre
    refine ⟨a, rfl, ?_⟩
    rw [List.getElem?_append_left (List.getElem?_eq_some_iff.mp h).1]; exact h
theorem Rels.ext0 (e : Ext0 ρ H ρ' H') : ∀ (xs : List Val) (vs : List V), Rels g ρ H xs vs → Rels g ρ' H' xs vs
  | [], _, h => by simpa only [Rels] using h
  | x :: xs, vs, h => by
    simp only [Rels] at h ⊢
    obtain ⟨v, r, rfl, h1, h2⟩ := h
    exact ⟨v, r, rfl, Rel.ext0 e x v h1, Rels.ext0 e xs r h2⟩
end
theorem Rel.ext (e : Ext ρ H ρ' H') (x : Val) (v : V) (h : Rel g ρ H x v) : Rel g ρ' H' x v := Rel.ext0 e.to0 x v h
theorem Rels.ext (e : Ext ρ H ρ' H') (xs : List Val) (vs : List V) (h : Rels g ρ H xs vs) : Rels g ρ' H' xs vs := Rels.ext0 e.to0 xs vs h
theorem Rels.length : ∀ {xs : List Val} {vs : List V}, Rels g ρ H xs vs → xs.length = vs.length
  | [], _, h => by simp only [Rels] at h; subst h; rfl
  | x :: xs, vs, h => by
    simp only [Rels] at h
    obtain ⟨v, r, rfl, h1, h2⟩ := h
    simp [Rels.length h2]
theorem Rels.nil : Rels g ρ H [] [] := by simp only [Rels]
theorem Rels.cons {x : Val} {xs : List Val} {v : V} {vs : List V} (h : Rel g ρ H x v) (t : Rels g ρ H xs vs) : Rels g ρ H (x :: xs) (v :: vs) := by
  simp only [Rels]; exact ⟨v, vs, rfl, h, t⟩
theorem Rels.cons_inv {x : Val} {xs : List Val} {vs : List V} (h : Rels g ρ H (x :: xs) vs) : ∃ v r, vs = v :: r ∧ Rel g ρ H x v ∧ Rels g ρ H xs r := by
  simpa only [Rels] using h
theorem Rels.append : ∀ {xs ys : List Val} {vs us : List V}, Rels g ρ H xs vs → Rels g ρ H ys us → Rels g ρ H (xs ++ ys) (vs ++ us)
  | [], _, _, _, h, t => by simp only [Rels] at h; subst h; exact t
  | x :: xs, _, _, _, h, t => by
    obtain ⟨v, r, rfl, h1, h2⟩ := h.cons_inv
    exact .cons h1 (Rels.append h2 t)
theorem Rels.get : ∀ {xs : List Val} {vs : List V} {i : Nat} {x : Val}, Rels g ρ H xs vs → xs[i]? = some x → ∃ v, vs[i]? = some v ∧ Rel g ρ H x v
  | [], _, _, _, _, e => by simp at e
  | x :: xs, _, 0, _, h, e => by
    obtain ⟨v, r, rfl, h1, h2⟩ := h.cons_inv
    simp at e; subst e; exact ⟨v, rfl, h1⟩
  | x :: xs, _, i + 1, _, h, e => by
    obtain ⟨v, r, rfl, h1, h2⟩ := h.cons_inv
    simpa using Rels.get (i := i) h2 (by simpa using e)
theorem Rels.getV {xs : List Val} {vs : List V} {i : Nat} {v : V} (h : Rels g ρ H xs vs) (e : vs[i]? = some v) : ∃ x, xs[i]? = some x ∧ Rel g ρ H x v := by
  have hl : i < xs.length := by rw [h.length]; exact (List.getElem?_eq_some_iff.mp e).1
  obtain ⟨u, h1, h2⟩ := h.get (List.getElem?_eq_getElem hl)
  rw [e] at h1; cases h1
  exact ⟨_, List.getElem?_eq_getElem hl, h2⟩
theorem Rels.take : ∀ {xs : List Val} {vs : List V} (n : Nat), Rels g ρ H xs vs → Rels g ρ H (xs.take n) (vs.take n)
  | [], _, n, h => by simp only [Rels] at h; subst h; simp [Rels]
  | x :: xs, _, 0, h => by simp [Rels]
  | x :: xs, _, n + 1, h => by
    obtain ⟨v, r, rfl, h1, h2⟩ := h.cons_inv
    exact .cons h1 (Rels.take n h2)
theorem Rels.drop : ∀ {xs : List Val} {vs : List V} (n : Nat), Rels g ρ H xs vs → Rels g ρ H (xs.drop n) (vs.drop n)
  | [], _, n, h => by simp only [Rels] at h; subst h; simp [Rels]
  | x :: xs, _, 0, h => h
  | x :: xs, _, n + 1, h => by
    obtain ⟨v, r, rfl, h1, h2⟩ := h.cons_inv
    exact Rels.drop n h2
theorem Rels.set : ∀ {xs : List Val} {vs : List V} {x : Val} {v : V} (n : Nat), Rels g ρ H xs vs → Rel g ρ H x v → Rels g ρ H (xs.set n x) (vs.set n v)
  | [], _, _, _, n, h, _ => by simp only [Rels] at h; subst h; simp [Rels]
  | y :: xs, _, _, _, 0, h, hx => by
    obtain ⟨v, r, rfl, h1, h2⟩ := h.cons_inv
    exact .cons hx h2
  | y :: xs, _, _, _, n + 1, h, hx => by
    obtain ⟨v, r, rfl, h1, h2⟩ := h.cons_inv
    exact .cons h1 (Rels.set n h2 hx)
theorem ObR.ext0 (e : Ext0 ρ H ρ' H') {o : Ob} {a : Addr} (h : ObR g ρ H o a) (k : H' a = H a) : ObR g ρ' H' o a := by
  cases o with
  | lst xs => obtain ⟨vs, h1, h2, h3⟩ := h; exact ⟨vs, k.trans h1, h2, h3.ext0 e⟩
  | dct ks xs => obtain ⟨vs, h1, h2, h3, h4⟩ := h; exact ⟨vs, k.trans h1, h2, h3, h4.ext0 e⟩
  | ins c fs xs => obtain ⟨dx, vs, h1, h2, h3⟩ := h; exact ⟨dx, vs, k.trans h1, h2, h3.ext0 e⟩
  | dead => obtain ⟨o, u, h1⟩ := h; exact ⟨o, u, k.trans h1⟩
theorem ObR.ext (e : Ext ρ H ρ' H') {o : Ob} {a : Addr} (h : ObR g ρ H o a) (k : H' a = H a) : ObR g ρ' H' o a := ObR.ext0 e.to0 h k
theorem ObR.there {o : Ob} {a : Addr} (h : ObR g ρ H o a) : ∃ u, H a = some u := by
  cases o with
  | lst xs => obtain ⟨vs, h1, _⟩ := h; exact ⟨_, h1⟩
  | dct ks xs => obtain ⟨vs, h1, _⟩ := h; exact ⟨_, h1⟩
  | ins c fs xs => obtain ⟨dx, vs, h1, _⟩ := h; exact ⟨_, h1⟩
  | dead => obtain ⟨o, u, h1⟩ := h; exact ⟨_, h1⟩
theorem Wd.there (w : Wd g ρ st H) {a : Addr} (h : a ∈ ρ) : ∃ u, H a = some u := by
  obtain ⟨n, hn, e⟩ := List.getElem_of_mem h
  have hn' : n < st.length := by rw [← w.len]; exact hn
  exact (w.ob n _ a (List.getElem?_eq_getElem hn') (by rw [List.getElem?_eq_getElem hn, e])).there
theorem Wd.fresh (w : Wd g ρ st H) {p : Addr} (h : H p = none) : p ∉ ρ := fun m => by
  obtain ⟨u, e⟩ := w.there m
  rw [h] at e; cases e
theorem Ext.write {p : Addr} {o : HO} (hp : p ∈ ρ) (h1 : ∀ xs, H p ≠ some (.tup xs)) (h2 : ∀ o u, H p ≠ some (.frz o u)) : Ext ρ H ρ (upd H p o) :=
  ⟨⟨[], by simp⟩, fun a xs q => by rw [upd_ne (fun z => h1 xs (by rw [← z]; exact q))]; exact q, fun a o u q => by rw [upd_ne (fun z => h2 o u (by rw [← z]; exact q))]; exact q,
   fun a o q _ n => ⟨by rw [upd_ne (fun z => n (by rw [z]; exact hp))]; exact q, n⟩⟩
/-- a new object that is not of the store -/
theorem Ext.new {p : Addr} {o : HO} (h : H p = none) : Ext ρ H ρ (upd H p o) :=
  ⟨⟨[], by simp⟩, fun a xs q => by rw [upd_ne (ne_of_none q h)]; exact q, fun a o u q => by rw [upd_ne (ne_of_none q h)]; exact q, fun a o q _ n => ⟨by rw [upd_ne (ne_of_none q h)]; exact q, n⟩⟩
theorem Wd.new (w : Wd g ρ st H) {p : Addr} {o : HO} (h : H p = none) : Wd g ρ st (upd H p o) :=
  ⟨w.len, w.nd, fun n ob a h1 h2 => (w.ob n ob a h1 h2).ext (Ext.new h) (by
    obtain ⟨u, e⟩ := (w.ob n ob a h1 h2).there
    rw [upd_ne (ne_of_none e h)]), fun q hq => (w.tb q hq).mono fun b o e n => ⟨by rw [upd_ne (ne_of_none e h)]; exact e, n⟩⟩
/-- a new object is locked -/
theorem upd_lock {p : Addr} {o u : HO} : upd (upd H p o) p u = upd H p u := upd_upd
/-- a new object of the store -/
theorem Ext.alloc {p : Addr} {o : HO} (h : H p = none) : Ext ρ H (ρ ++ [p]) (upd H p o) :=
  ⟨⟨[p], rfl⟩, fun a xs q => by rw [upd_ne (ne_of_none q h)]; exact q, fun a o u q => by rw [upd_ne (ne_of_none q h)]; exact q, fun a o q _ n => ⟨by rw [upd_ne (ne_of_none q h)]; exact q, by
    simp only [List.mem_append, List.mem_singleton, not_or]
    exact ⟨n, ne_of_none q h⟩⟩⟩
theorem Wd.alloc (w : Wd g ρ st H) {p : Addr} {o : HO} {ob : Ob} (h : H p = none) (hob : ObR g (ρ ++ [p]) (upd H p o) ob p) : Wd g (ρ ++ [p]) (st ++ [ob]) (upd H p o) := by
  refine ⟨by simp [w.len], ?_, fun n ob' a h1 h2 => ?_, fun q hq => (w.tb q hq).mono fun b o e n => ⟨by rw [upd_ne (ne_of_none e h)]; exact e, by
    simp only [List.mem_append, List.mem_singleton, not_or]
    exact ⟨n, ne_of_none e h⟩⟩⟩
  · rw [List.nodup_append]
    refine ⟨w.nd, by simp, fun a ha b hb e => ?_⟩
    have hb' : b = p := by simpa using hb
    subst hb'; subst e
    exact w.fresh h ha
  · by_cases hn : n < st.length
    · rw [List.getElem?_append_left hn] at h1
      rw [List.getElem?_append_left (by rw [w.len]; exact hn)] at h2
      obtain ⟨u, e⟩ := (w.ob n ob' a h1 h2).there
      exact (w.ob n ob' a h1 h2).ext (Ext.alloc h) (by rw [upd_ne (ne_of_none e h)])
    · have hn1 : n = st.length := by
        have := (List.getElem?_eq_some_iff.mp h1).1
        simp at this; omega
      subst hn1
      rw [List.getElem?_append_right (Nat.le_refl _)] at h1
      rw [List.getElem?_append_right (by rw [w.len]; exact Nat.le_refl _)] at h2
      simp at h1
      rw [w.len] at h2
      simp at h2
      subst h1; subst h2
      exact hob
/-- an object of the store is written (or locked) -/
theorem Wd.write (w : Wd g ρ st H) {n : Nat} {a : Addr} {o : HO} {ob : Ob} (h : ρ[n]? = some a) (e : Ext ρ H ρ (upd H a o)) (hob : ObR g ρ (upd H a o) ob a) : Wd g ρ (st.set n ob) (upd H a o) := by
  refine ⟨by simp [w.len], w.nd, fun m ob' b h1 h2 => ?_, fun q hq => (w.tb q hq).mono fun b u e' n => ⟨by rw [upd_ne (fun z => n (by rw [z]; exact List.mem_of_getElem? h))]; exact e', n⟩⟩
  by_cases hm : n = m
  · subst hm
    rw [h] at h2; cases h2
    have hn : n < st.length := by rw [← w.len]; exact (List.getElem?_eq_some_iff.mp h).1
    rw [List.getElem?_set_self hn] at h1; cases h1
    exact hob
  · rw [List.getElem?_set_ne hm] at h1
    have hne : b ≠ a := fun z => by
      subst z
      exact hm (nd_ix w.nd h h2)
    exact (w.ob m ob' b h1 h2).ext e (by rw [upd_ne hne])
end
end Mi
namespace Mi
open PySem L2

/-! syntax -/
inductive BO where | add | sub | mul | fdiv | mod | pow
  deriving DecidableEq
inductive CO where | eq | ne | lt | le | gt | ge | isin | notin
  deriving DecidableEq
inductive FO where | len | abs | sum | int | str | list | tuple | sorted | all | any | max | min | ssort | dict | lset
  deriving DecidableEq
inductive MO where | append | extend | join | split | upper | startswith | endswith | replace | strip | isalnum | index | items
  deriving DecidableEq
inductive TyN where | int | str | bool | list | tuple | dict
  deriving DecidableEq
inductive Tg where | nm (i : Nat) | tp (is : List Nat)

inductive Ex where
  | bad
  | var (i : Nat) | lit (v : Val) | glb (i : Nat)
  | nil | cons (a as : Ex)
  | tup (as : Ex) | lst (as : Ex) | new (as : Ex) | dsp (as : Ex) | dnew (as : Ex)
  | bin (o : BO) (a b : Ex) | cmp (o : CO) (a b : Ex) | isN (yes : Bool) (a : Ex) | isB (yes b : Bool) (a : Ex) | neg (a : Ex)
  | and (a b : Ex) | or (a b : Ex) | not (a : Ex) | ite (c a b : Ex) | chain (o1 o2 : CO) (a b c : Ex)
  | ix (a b : Ex) | sl (a lo hi : Ex)
  | fn (f : FO) (as : Ex) | lnew (a : Ex) | dcpy (a : Ex) | sortK (a : Ex) | mt (m : MO) (o as : Ex) | dget (o k d : Ex) | isi (t : TyN) (a : Ex)
  | call (f : Nat) (as : Ex)
  | rng1 (a : Ex) | rng2 (a b : Ex)
  | lc (vs : List Nat) (tg : Tg) (it c e : Ex) | lcn (vs : List Nat) (tg : Tg) (it c e : Ex)

inductive Sm where
  | bad | skip | seq (a b : Sm)
  | asg (i : Nat) (e : Ex) | asgT (tg : Tg) (e : Ex) | put (o k e : Ex) | expr (e : Ex) | frz (i : Nat)
  | ret (e : Ex) | retN
  | ite (c : Ex) (a b : Sm)
  | for_ (tg : Tg) (it : Ex) (body : Sm)
  | brk | cont

abbrev Env := List (Option Val)

inductive Fl where
  | nx (η : Env) (st : Store) | rt (v : Val) (st : Store) | bk (η : Env) (st : Store) | ct (η : Env) (st : Store) | xc (e : Exn) (η : Env) (st : Store) | no

/-! values' operations -/
def asL (st : Store) : Val → Option (List Val)
  | .lst xs => some xs
  | .loc n => match st[n]? with
    | some (.lst xs) => some xs
    | _ => none
  | _ => none
def asD (st : Store) : Val → Option (List Txt × List Val)
  | .dct ks xs => some (ks, xs)
  | .loc n => match st[n]? with
    | some (.dct ks xs) => some (ks, xs)
    | _ => none
  | _ => none
/-- a list or a tuple -/
def asS (st : Store) : Val → Option (List Val)
  | .tup xs => some xs
  | v => asL st v

def keyOf : Val → Option Txt
  | .str s => some s
  | _ => none
def look (k : Txt) : List Txt → List Val → Option Val
  | k' :: ks, x :: xs => if k' = k then some x else look k ks xs
  | _, _ => none
def setA (k : Txt) (v : Val) : List Txt → List Val → List Val
  | k' :: ks, x :: xs => (if k' = k then v else x) :: setA k v ks xs
  | _, xs => xs
def putD (k : Txt) (v : Val) (ks : List Txt) (xs : List Val) : List Txt × List Val :=
  if k ∈ ks then (ks, setA k v ks xs) else (ks ++ [k], xs ++ [v])

def truth : Val → Option Bool
  | .bl b => some b
  | _ => none

def intsV : List Val → Option (List Int)
  | [] => some []
  | .int i :: r => (intsV r).map (i :: ·)
  | _ => none
def strsV : List Val → Option (List Txt)
  | [] => some []
  | .str i :: r => (strsV r).map (i :: ·)
  | _ => none
def blsV : List Val → Option (List Bool)
  | [] => some []
  | .bl i :: r => (blsV r).map (i :: ·)
  | _ => none

/-- == of data, nesting below n -/
def eqz (f : Val → Val → Option Bool) : List Val → List Val → Option Bool
  | x :: xs, y :: ys => (f x y).bind fun b => (eqz f xs ys).map (b && ·)
  | _, _ => some true
/-- a flat value -/
def flat : Val → Bool
  | .non => true | .bl _ => true | .int _ => true | .str _ => true | _ => false
def isTup : Val → Bool
  | .tup _ => true | _ => false
def eqf : Val → Val → Bool
  | .non, .non => true
  | .bl a, .bl b => a == b
  | .int a, .int b => a == b
  | .str a, .str b => a == b
  | .bl a, .int b => (if a then 1 else 0) == b
  | .int a, .bl b => a == (if b then 1 else 0)
  | _, _ => false
/-- how a value is seen by == -/
inductive Sv where | flt | tup (xs : List Val) | lst (xs : List Val) | dct (ks : List Txt) (xs : List Val)
def view (st : Store) : Val → Option Sv
  | .non => some .flt
  | .bl _ => some .flt
  | .int _ => some .flt
  | .str _ => some .flt
  | .tup xs => some (.tup xs)
  | .lst xs => some (.lst xs)
  | .dct ks xs => some (.dct ks xs)
  | .loc n => match st[n]? with
    | some (.lst xs) => some (.lst xs)
    | some (.dct ks xs) => some (.dct ks xs)
    | _ => none
def eqd (f : Val → Val → Option Bool) (ls : List Txt) (ys : List Val) : List Txt → List Val → Option Bool
  | k :: ks, x :: xs => match look k ls ys with
    | none => some false
    | some y => (f x y).bind fun b => (eqd f ls ys ks xs).map (b && ·)
  | _, _ => some true
def eqv (st : Store) : Nat → Val → Val → Option Bool
  | 0, _, _ => none
  | n + 1, x, y => match view st x, view st y with
    | some .flt, some .flt => some (eqf x y)
    | some (.tup xs), some (.tup ys) => (eqz (eqv st n) xs ys).map (· && xs.length == ys.length)
    | some (.lst xs), some (.lst ys) => if xs.length = ys.length then eqz (eqv st n) xs ys else some false
    | some (.dct ks xs), some (.dct ls ys) => if ks.length = ls.length then eqd (eqv st n) ls ys ks xs else some false
    | some _, some _ => some false
    | _, _ => none

def ixV (st : Store) (a b : Val) : Option Val := match a, b with
  | .tup xs, .int i => atI xs i
  | .str s, .int i => (atI s i).map fun c => .str [c]
  | .lst xs, .int i => atI xs i
  | .loc n, b => match st[n]? with
    | some (.lst xs) => (match b with | .int i => atI xs i | _ => none)
    | some (.dct ks xs) => (keyOf b).bind fun k => look k ks xs
    | _ => none
  | .dct ks xs, b => (keyOf b).bind fun k => look k ks xs
  | _, _ => none

def repT (s : Txt) : Nat → Txt
  | 0 => []
  | n + 1 => s ++ repT s n
def addV (st : Store) (a b : Val) : Option Val := match a, b with
  | .int i, .int j => some (.int (i + j))
  | .str x, .str y => if x.length + y.length ≤ sizeLine then some (.str (x ++ y)) else none
  | .tup xs, .tup ys => if xs.length + ys.length ≤ sizeLine then some (.tup (xs ++ ys)) else none
  | a, b => (asL st a).bind fun xs => (asL st b).bind fun ys => if xs.length + ys.length ≤ sizeLine then some (.lst (xs ++ ys)) else none
def binV (st : Store) (o : BO) (a b : Val) : Option Val := match o with
  | .add => addV st a b
  | .sub => (match a, b with | .int i, .int j => some (.int (i - j)) | _, _ => none)
  | .mul => (match a, b with
    | .int i, .int j => if (-(2 ^ 64) < i ∧ i < 2 ^ 64) ∨ (-(2 ^ 64) < j ∧ j < 2 ^ 64) then some (.int (i * j)) else none
    | .str s, .int j => if 0 ≤ j ∧ j < 2 ^ 24 ∧ s.length * j.toNat ≤ 16777216 then some (.str (repT s j.toNat)) else none
    | _, _ => none)
  | .fdiv => (match a, b with | .int i, .int j => if 0 < j ∧ j < 2 ^ 200 then some (.int (i / j)) else none | _, _ => none)
  | .mod => (match a, b with | .int i, .int j => if 0 < j then some (.int (i % j)) else none | _, _ => none)
  | .pow => (match a, b with | .int i, .int j => if 0 ≤ j ∧ j ≤ 1000000 ∧ -(2 ^ 63) < i ∧ i < 2 ^ 63 then some (.int (i ^ j.toNat)) else none | _, _ => none)

def inV' (st : Store) (x : Val) : List Val → Option Bool
  | [] => some false
  | y :: ys => (eqv st 60 y x).bind fun b => (inV' st x ys).map (b || ·)
/-- x in y -/
def isinV (st : Store) (a b : Val) : Option Bool := match b with
  | .str z => (match a with
    | .str [c] => some (decide (c ∈ z))
    | _ => none)
  | .tup xs => inV' st a xs
  | .lst xs => inV' st a xs
  | .dct ks xs => (keyOf a).map fun k => (look k ks xs).isSome
  | .loc n => (match st[n]? with
    | some (.lst xs) => inV' st a xs
    | some (.dct ks xs) => (keyOf a).map fun k => (look k ks xs).isSome
    | _ => none)
  | _ => none
def ltT : Txt → Txt → Bool
  | [], [] => false
  | [], _ :: _ => true
  | _ :: _, [] => false
  | a :: as, b :: bs => if a < b then true else if b < a then false else ltT as bs
def neV (st : Store) (a b : Val) : Option Bool := match view st a, view st b with
  | some .flt, some .flt => some (!eqf a b)
  | some (.tup xs), some (.tup ys) => (eqz (eqv st 59) xs ys).map fun b => !(b && xs.length == ys.length)
  | some (.lst xs), some (.lst ys) => if xs.length = ys.length then (eqz (eqv st 59) xs ys).map (!·) else some true
  | _, _ => none
def cmpV (st : Store) (o : CO) (a b : Val) : Option Bool := match o with
  | .eq => eqv st 60 a b
  | .ne => neV st a b
  | .lt => (match a, b with | .int i, .int j => some (decide (i < j)) | .str x, .str y => some (ltT x y) | _, _ => none)
  | .le => (match a, b with | .int i, .int j => some (decide (i ≤ j)) | .str x, .str y => some (!ltT y x) | _, _ => none)
  | .gt => (match a, b with | .int i, .int j => some (decide (j < i)) | .str x, .str y => some (ltT y x) | _, _ => none)
  | .ge => (match a, b with | .int i, .int j => some (decide (j ≤ i)) | .str x, .str y => some (!ltT x y) | _, _ => none)
  | .isin => isinV st a b
  | .notin => (isinV st a b).map (!·)

def insT (x : Txt) : List Txt → List Txt
  | [] => [x]
  | y :: ys => if ltT y x then y :: insT x ys else x :: y :: ys
/-- texts in order -/
def sortT : List Txt → List Txt
  | [] => []
  | x :: xs => insT x (sortT xs)
def insU (x : Txt) : List Txt → List Txt
  | [] => [x]
  | y :: ys => if ltT y x then y :: insU x ys else if ltT x y then x :: y :: ys else y :: ys
/-- texts in order, each once -/
def sortU : List Txt → List Txt
  | [] => []
  | x :: xs => insU x (sortU xs)
/-- pairs by their texts, stable -/
def insK (x : Txt × Val) : List (Txt × Val) → List (Txt × Val)
  | [] => [x]
  | y :: ys => if ltT y.1 x.1 then y :: insK x ys else x :: y :: ys
def sortKs : List (Txt × Val) → List (Txt × Val)
  | [] => []
  | x :: xs => insK x (sortKs xs)
def joinT (sep : Txt) : List Txt → Txt
  | [] => []
  | [x] => x
  | x :: y :: r => x ++ sep ++ joinT sep (y :: r)

/-- the parts between the signs c -/
def splitC (c : Nat) : Txt → List Txt
  | [] => [[]]
  | a :: r => if a = c then [] :: splitC c r else match splitC c r with
    | p :: ps => (a :: p) :: ps
    | [] => [[a]]
def lenV (st : Store) : List Val → Option Val
  | [.str s] => some (.int s.length)
  | [v] => (match asS st v with
    | some xs => some (.int xs.length)
    | none => (asD st v).map fun p => .int p.2.length)
  | _ => none
def tupleV (st : Store) : List Val → Option Val
  | [.tup xs] => some (.tup xs)
  | [v] => (asL st v).map .tup
  | _ => none
/-- list(x), a sequence or a dict's keys -/
def listV (st : Store) (v : Val) : Option (List Val) := match asS st v with
  | some xs => some xs
  | none => (asD st v).map fun p => p.1.map .str
def toS (i : Int) : Txt := (toString i).toList.map Char.toNat
def fnV (st : Store) (f : FO) (as : List Val) : Option Val := match f with
  | .len => lenV st as
  | .abs => (match as with | [.int i] => some (.int (if i < 0 then -i else i)) | _ => none)
  | .sum => (match as with | [v] => (asL st v).bind fun xs => (intsV xs).map fun ns => .int ns.sum | _ => none)
  | .int => (match as with | [.int i] => some (.int i) | [.bl b] => some (.int (if b then 1 else 0)) | _ => none)
  | .str => (match as with | [.int i] => if i.natAbs < 2 ^ 300 ∧ (toS i).length ≤ sizeLine then some (.str (toS i)) else none | _ => none)
  | .list => (match as with | [v] => (listV st v).map .lst | _ => none)
  | .tuple => tupleV st as
  | .all => (match as with | [v] => (asL st v).bind fun xs => (blsV xs).map fun bs => .bl (bs.all id) | _ => none)
  | .any => (match as with | [v] => (asL st v).bind fun xs => (blsV xs).map fun bs => .bl (bs.any id) | _ => none)
  | .max => (match as with | [.int i, .int j] => some (.int (if j > i then j else i)) | _ => none)
  | .min => (match as with | [.int i, .int j] => some (.int (if j < i then j else i)) | _ => none)
  | .sorted => (match as with | [v] => (asL st v).bind fun xs => (strsV xs).bind fun ts => if ts.length < 64 then some (.lst ((sortT ts).map .str)) else none | _ => none)
  | .ssort => (match as with | [v] => (asL st v).bind fun xs => (strsV xs).bind fun ts => if ts.length < 64 then some (.lst ((sortU ts).map .str)) else none | _ => none)
  | _ => none

/-- what a method is asked of, ahead of its arguments -/
def mtOk (m : MO) (x : Val) (st : Store) : Bool := match m, x with
  | .append, .loc n => (match st[n]? with | some (.lst _) => true | _ => false)
  | .extend, .loc n => (match st[n]? with | some (.lst _) => true | _ => false)
  | .append, _ => false
  | .extend, _ => false
  | _, .str _ => true
  | _, _ => false
def mtV (m : MO) (o : Val) (as : List Val) (st : Store) : Option (Val × Store) := match m with
  | .append => (match o, as with
    | .loc n, [v] => (match st[n]? with
      | some (.lst xs) => if xs.length < sizeLine then some (.non, st.set n (.lst (xs ++ [v]))) else none
      | _ => none)
    | _, _ => none)
  | .join => (match o, as with
    | .str sep, [v] => (match (asL st v).bind strsV with
      | some ts => if (ts.map (·.length)).sum + ts.length * sep.length ≤ 16777216 then some (.str (joinT sep ts), st) else none
      | _ => none)
    | _, _ => none)
  | .upper => (match o, as with
    | .str s, [] => if s.all (fun c => decide (97 ≤ c ∧ c ≤ 122)) ∧ s.length ≤ 5592405 then some (.str (s.map (· - 32)), st) else none
    | _, _ => none)
  | .startswith => (match o, as with
    | .str s, [.str t] => some (.bl (t.isPrefixOf s), st)
    | _, _ => none)
  | .extend => (match o, as with
    | .loc n, [v] => (match st[n]? with
      | some (.lst xs) => (match asS st v with
        | some ys => if xs.length + ys.length ≤ sizeLine then some (.non, st.set n (.lst (xs ++ ys))) else none
        | none => none)
      | _ => none)
    | _, _ => none)
  | .split => (match o, as with
    | .str s, [.str [c]] => if c < 256 ∧ s.length + 2 ≤ sizeLine then some (.lst ((splitC c s).map .str), st) else none
    | _, _ => none)
  | _ => none

def isiV : TyN → Val → Option Bool
  | t, .int _ => some (match t with | .int => true | _ => false)
  | t, .bl _ => some (match t with | .int => true | .bool => true | _ => false)
  | t, .str _ => some (match t with | .str => true | _ => false)
  | t, .non => some false
  | t, .tup _ => some (match t with | .tuple => true | _ => false)
  | t, .lst _ => some (match t with | .list => true | _ => false)
  | t, .dct _ _ => some (match t with | .dict => true | _ => false)
  | _, _ => none

def cut {α : Type} (xs : List α) (lo hi : Option Int) : List α := (xs.drop (HT.sIx xs.length 0 lo)).take (HT.sIx xs.length xs.length hi - HT.sIx xs.length 0 lo)
def slV (st : Store) (a : Val) (lo hi : Option Int) : Option Val := match a with
  | .str s => some (.str (cut s lo hi))
  | .tup s => some (.tup (cut s lo hi))
  | a => (asL st a).map fun s => .lst (cut s lo hi)

/-- what is walked: the items; the list of the store, if it is one -/
def itemsOf (st : Store) : Val → Option (List Val × Option Nat)
  | .lst xs => some (xs, none)
  | .tup xs => some (xs, none)
  | .str s => some (s.map fun c => .str [c], none)
  | .dct ks _ => some (ks.map .str, none)
  | .loc n => match st[n]? with
    | some (.lst xs) => some (xs, some n)
    | _ => none
  | _ => none

def opt {α : Type} (o : Option α) (st : Store) : Res α := match o with
  | some v => .ok v st
  | none => .no

def wipeE (η : Env) : List Nat → Env
  | [] => η
  | v :: vs => (wipeE η vs).set v none
def asgs : List Nat → List Val → Env → Option Env
  | [], [], η => some η
  | i :: is, v :: vs, η => asgs is vs (η.set i (some v))
  | _, _, _ => none
def asgTg (tg : Tg) (v : Val) (η : Env) : Option Env := match tg, v with
  | .nm i, v => some (η.set i (some v))
  | .tp is, .tup xs => asgs is xs η
  | _, _ => none

def sameL (n : Nat) (xs : List Val) (st : Store) : Prop := st[n]? = some (.lst xs)
open Classical in
noncomputable def ckOf (n : Option Nat) (xs : List Val) (st : Store) : Bool := match n with
  | none => true
  | some n => decide (sameL n xs st)
/-! a list comprehension's turns over the items xs: T the test, E the element -/
def Res.bindN {α β : Type} (r : Res α) (f : α → Store → Res β) : Res β := match r with
  | .ok a st => f a st
  | _ => .no
def lcLoop (ck : Store → Bool) (tg : Tg) (η : Env) (T : Env → Store → Res Bool) (E : Env → Store → Res Val) : List Val → List Val → Store → Res (List Val)
  | [], acc, st => if ck st then .ok acc st else .no
  | x :: xs, acc, st => if ck st then (match asgTg tg x η with
    | none => .no
    | some η1 => (T η1 st).bindN fun b st1 => match b with
      | true => (E η1 st1).bindN fun v st2 => if acc.length < sizeLine then lcLoop ck tg η T E xs (acc ++ [v]) st2 else .no
      | false => lcLoop ck tg η T E xs acc st1) else .no

def pairUp : List Val → Option (List Txt × List Val)
  | [] => some ([], [])
  | k :: v :: r => (keyOf k).bind fun k => (pairUp r).map fun p => (k :: p.1, v :: p.2)
  | _ => none
def putAll : List Txt → List Val → List Txt × List Val → List Txt × List Val
  | k :: ks, v :: vs, d => putAll ks vs (putD k v d.1 d.2)
  | _, _, d => d
/-- pairs as dict() takes them -/
def pairsOf : List Val → Option (List Txt × List Val)
  | [] => some ([], [])
  | .tup [.str k, v] :: r => (pairsOf r).map fun p => (k :: p.1, v :: p.2)
  | _ => none
def dictV (st : Store) (v : Val) : Option (List Txt × List Val) := asD st v
/-- rows by their texts -/
def rowsOf : List Val → Option (List (Txt × Val))
  | [] => some []
  | .tup (.str k :: r) :: rs => (rowsOf rs).map fun p => (k, .tup (.str k :: r)) :: p
  | _ => none

/-! all that a value reaches is frozen -/
mutual
def frzV : Nat → Val → Store → Option (Val × Store)
  | 0, _, _ => none
  | n + 1, v, st => match v with
    | .loc m => (match st[m]? with
      | some (.lst xs) => (frzL n xs (st.set m .dead)).map fun p => (.lst p.1, p.2)
      | some (.dct ks xs) => (frzL n xs (st.set m .dead)).map fun p => (.dct ks p.1, p.2)
      | _ => none)
    | .tup xs => (frzL n xs st).map fun p => (.tup p.1, p.2)
    | v => some (v, st)
def frzL : Nat → List Val → Store → Option (List Val × Store)
  | 0, _, _ => none
  | _ + 1, [], st => some ([], st)
  | n + 1, x :: xs, st => (frzV n x st).bind fun p => (frzL n xs p.2).map fun q => (p.1 :: q.1, q.2)
end

/-- the calls, the constants -/
structure Itp where
  C : Nat → List Val → Store → Res Val
  gs : List (Txt × Val)
/-- what an expression comes to: as a value, as a list of arguments, as a test, as a slice's part, as what is walked -/
structure E5 where
  v : Env → Store → Res Val
  s : Env → Store → Res (List Val)
  t : Env → Store → Res Bool
  o : Env → Store → Res (Option Int)
  i : Env → Store → Res (List Val × Option Nat)
def plain (v : Env → Store → Res Val) : E5 where
  v := v
  s := fun _ _ => .no
  t := fun η st => (v η st).bind fun x st => opt (truth x) st
  o := fun η st => (v η st).bind fun x st => match x with
    | .int i => .ok (some i) st
    | _ => .no
  i := fun η st => (v η st).bind fun x st => opt (itemsOf st x) st
def none5 : E5 := ⟨fun _ _ => .no, fun _ _ => .no, fun _ _ => .no, fun _ _ => .no, fun _ _ => .no⟩

noncomputable def evA (C : Itp) : Ex → E5
  | .bad => none5
  | .var i => plain fun η st => match η[i]? with
    | some (some v) => .ok v st
    | _ => .no
  | .lit v => plain fun _ st => .ok v st
  | .glb i => plain fun _ st => match C.gs[i]? with
    | some p => .ok p.2 st
    | none => .no
  | .nil => { none5 with s := fun _ st => .ok [] st, o := fun _ st => .ok none st }
  | .cons a as => { none5 with s := fun η st => ((evA C a).v η st).bind fun v st => ((evA C as).s η st).bind fun vs st => .ok (v :: vs) st }
  | .tup as => plain fun η st => ((evA C as).s η st).bind fun vs st => if vs.length ≤ sizeLine then .ok (.tup vs) st else .no
  | .lst as => plain fun η st => ((evA C as).s η st).bind fun vs st => if vs.length ≤ sizeLine then .ok (.lst vs) st else .no
  | .new as => plain fun η st => ((evA C as).s η st).bind fun vs st => if vs.length ≤ sizeLine then .ok (.loc st.length) (st ++ [.lst vs]) else .no
  | .dsp as => plain fun η st => ((evA C as).s η st).bind fun vs st => match pairUp vs with
    | some p => if p.1.length ≤ 15 then .ok (.dct (putAll p.1 p.2 ([], [])).1 (putAll p.1 p.2 ([], [])).2) st else .no
    | none => .no
  | .dnew as => plain fun η st => ((evA C as).s η st).bind fun vs st => match pairUp vs with
    | some p => if p.1.length ≤ 15 then .ok (.loc st.length) (st ++ [.dct (putAll p.1 p.2 ([], [])).1 (putAll p.1 p.2 ([], [])).2]) else .no
    | none => .no
  | .bin o a b => plain fun η st => ((evA C a).v η st).bind fun x st => ((evA C b).v η st).bind fun y st => opt (binV st o x y) st
  | .cmp o a b => plain fun η st => ((evA C a).v η st).bind fun x st => ((evA C b).v η st).bind fun y st => opt ((cmpV st o x y).map .bl) st
  | .isN yes a => plain fun η st => ((evA C a).v η st).bind fun x st => match x with
    | .non => .ok (.bl yes) st
    | _ => .ok (.bl !yes) st
  | .isB yes b a => plain fun η st => ((evA C a).v η st).bind fun x st => match x with
    | .bl c => .ok (.bl (if yes then c == b else !(c == b))) st
    | _ => .no
  | .neg a => plain fun η st => ((evA C a).v η st).bind fun x st => match x with
    | .int i => .ok (.int (-i)) st
    | _ => .no
  | .and a b => { plain (fun η st => ((evA C a).v η st).bind fun x st => match x with
    | .bl true => (evA C b).v η st
    | .bl false => .ok (.bl false) st
    | _ => .no) with t := fun η st => ((evA C a).t η st).bind fun t st => match t with
    | true => (evA C b).t η st
    | false => .ok false st }
  | .or a b => { plain (fun η st => ((evA C a).v η st).bind fun x st => match x with
    | .bl false => (evA C b).v η st
    | .bl true => .ok (.bl true) st
    | _ => .no) with t := fun η st => ((evA C a).t η st).bind fun t st => match t with
    | true => .ok true st
    | false => (evA C b).t η st }
  | .not a => { plain (fun η st => ((evA C a).v η st).bind fun x st => match x with
    | .bl b => .ok (.bl !b) st
    | _ => .no) with t := fun η st => ((evA C a).t η st).bind fun t st => .ok (!t) st }
  | .ite c a b => { plain (fun η st => ((evA C c).t η st).bind fun t st => match t with
    | true => (evA C a).v η st
    | false => (evA C b).v η st) with t := fun _ _ => .no }
  | .chain o1 o2 a b c => plain fun η st => ((evA C a).v η st).bind fun x st => ((evA C b).v η st).bind fun y st => match cmpV st o1 x y with
    | some true => ((evA C c).v η st).bind fun z st => opt ((cmpV st o2 y z).map .bl) st
    | some false => .ok (.bl false) st
    | none => .no
  | .ix a b => plain fun η st => ((evA C a).v η st).bind fun x st => ((evA C b).v η st).bind fun y st => opt (ixV st x y) st
  | .sl a lo hi => plain fun η st => ((evA C a).v η st).bind fun x st => ((evA C lo).o η st).bind fun l st => ((evA C hi).o η st).bind fun h st => opt (slV st x l h) st
  | .fn f as => plain fun η st => ((evA C as).s η st).bind fun vs st => opt (fnV st f vs) st
  | .lnew a => plain fun η st => ((evA C a).v η st).bind fun x st => match listV st x with
    | some xs => .ok (.loc st.length) (st ++ [.lst xs])
    | none => .no
  | .dcpy a => plain fun η st => ((evA C a).v η st).bind fun x st => match dictV st x with
    | some p => .ok (.loc st.length) (st ++ [.dct p.1 p.2])
    | none => .no
  | .sortK a => plain fun η st => ((evA C a).v η st).bind fun x st => match (asL st x).bind rowsOf with
    | some ps => if (ps.map (·.1)).Nodup then .ok (.lst ((sortKs ps).map (·.2))) st else .no
    | none => .no
  | .mt m o as => plain fun η st => ((evA C o).v η st).bind fun x st => if mtOk m x st then ((evA C as).s η st).bind fun vs st => match mtV m x vs st with
    | some p => .ok p.1 p.2
    | none => .no else .no
  | .dget o k d => plain fun η st => ((evA C o).v η st).bind fun x st => if (asD st x).isSome then ((evA C k).v η st).bind fun y st => ((evA C d).v η st).bind fun z st => match asD st x, keyOf y with
    | some p, some k => .ok ((look k p.1 p.2).getD z) st
    | _, _ => .no else .no
  | .isi t a => plain fun η st => ((evA C a).v η st).bind fun x st => opt ((isiV t x).map .bl) st
  | .call f as => plain fun η st => ((evA C as).s η st).bind fun vs st => C.C f vs st
  | .rng1 a => { none5 with i := fun η st => ((evA C a).v η st).bind fun v st => match v with
    | .int n => if -(2 ^ 24) < n ∧ n < 2 ^ 24 then .ok ((List.range n.toNat).map fun (k : Nat) => Val.int k, none) st else .no
    | _ => .no }
  | .rng2 a b => { none5 with i := fun η st => ((evA C a).v η st).bind fun v st => ((evA C b).v η st).bind fun u st => match v, u with
    | .int m, .int n => if -(2 ^ 24) < m ∧ m < 2 ^ 24 ∧ -(2 ^ 24) < n ∧ n < 2 ^ 24 then .ok ((List.range (n - m).toNat).map fun (k : Nat) => Val.int (m + k), none) st else .no
    | _, _ => .no }
  | .lc vs tg it c e => plain fun η st => ((evA C it).i η st).bind fun p st =>
      (lcLoop (ckOf p.2 p.1) tg (wipeE η vs) (evA C c).t (evA C e).v p.1 [] st).bind fun xs st => .ok (.lst xs) st
  | .lcn vs tg it c e => plain fun η st => ((evA C it).i η st).bind fun p st =>
      (lcLoop (ckOf p.2 p.1) tg (wipeE η vs) (evA C c).t (evA C e).v p.1 [] st).bind fun xs st => .ok (.loc st.length) (st ++ [.lst xs])

/-! statements -/
def Fl.then (f : Fl) (k : Env → Store → Fl) : Fl := match f with
  | .nx η st => k η st
  | f => f
def Res.fl {α : Type} (r : Res α) (η : Env) (k : α → Store → Fl) : Fl := match r with
  | .ok a st => k a st
  | .ex e st => .xc e η st
  | .no => .no
def forLoop (ck : Store → Bool) (tg : Tg) (B : Env → Store → Fl) : List Val → Env → Store → Fl
  | [], η, st => if ck st then .nx η st else .no
  | x :: xs, η, st => if ck st then (match asgTg tg x η with
    | none => .no
    | some η1 => match B η1 st with
      | .nx η2 st2 => forLoop ck tg B xs η2 st2
      | .ct η2 st2 => forLoop ck tg B xs η2 st2
      | .bk η2 st2 => .nx η2 st2
      | .rt v st2 => .rt v st2
      | .xc e η2 st2 => .xc e η2 st2
      | .no => .no) else .no
def putV (o k v : Val) (st : Store) : Option Store := match o with
  | .loc n => match st[n]? with
    | some (.dct ks xs) => (keyOf k).bind fun k => if xs.length < sizeLine then some (st.set n (.dct (putD k v ks xs).1 (putD k v ks xs).2)) else none
    | some (.lst xs) => (match k with
      | .int i => (ixN xs.length i).map fun j => st.set n (.lst (xs.set j v))
      | _ => none)
    | _ => none
  | _ => none

noncomputable def exec (C : Itp) : Sm → Env → Store → Fl
  | .bad, _, _ => .no
  | .skip, η, st => .nx η st
  | .seq a b, η, st => (exec C a η st).then (exec C b)
  | .asg i e, η, st => ((evA C e).v η st).fl η fun v st => .nx (η.set i (some v)) st
  | .asgT tg e, η, st => ((evA C e).v η st).fl η fun v st => match asgTg tg v η with
    | some η => .nx η st
    | none => .no
  | .put o k e, η, st => ((evA C e).v η st).fl η fun v st => ((evA C o).v η st).fl η fun x st => ((evA C k).v η st).fl η fun y st => match putV x y v st with
    | some st => .nx η st
    | none => .no
  | .expr e, η, st => ((evA C e).v η st).fl η fun _ st => .nx η st
  | .frz i, η, st => match η[i]? with
    | some (some v) => (match frzV 1000 v st with
      | some p => .nx (η.set i (some p.1)) p.2
      | none => .no)
    | _ => .no
  | .ret e, η, st => ((evA C e).v η st).fl η fun v st => .rt v st
  | .retN, _, st => .rt .non st
  | .ite c a b, η, st => ((evA C c).t η st).fl η fun t st => match t with
    | true => exec C a η st
    | false => exec C b η st
  | .for_ tg it body, η, st => ((evA C it).i η st).fl η fun p st => forLoop (ckOf p.2 p.1) tg (exec C body) p.1 η st
  | .brk, η, st => .bk η st
  | .cont, η, st => .ct η st

structure Def where
  name : Txt
  ps : List Txt
  ns : List Txt
  body : Sm
  lam : Bool := false
/-- a program: its functions, its constants -/
structure Prg where
  fns : List Def
  gs : List (Txt × Val)
def retOf : Fl → Res Val
  | .nx _ st => .ok .non st
  | .rt v st => .ok v st
  | .xc e _ st => .ex e st
  | _ => .no
noncomputable def callN (p : Prg) (n f : Nat) (as : List Val) (st : Store) : Res Val := match n with
  | 0 => .no
  | n + 1 => match p.fns[f]? with
    | some d => if as.length = d.ps.length then retOf (exec ⟨callN p n, p.gs⟩ d.body (as.map some ++ List.replicate (d.ns.length - as.length) none) st) else .no
    | none => .no
termination_by n
theorem callN_zero (p : Prg) (f : Nat) (as : List Val) (st : Store) : callN p 0 f as st = .no := by rw [callN]
theorem callN_succ (p : Prg) (n f : Nat) (as : List Val) (st : Store) : callN p (n + 1) f as st = (match p.fns[f]? with
    | some d => if as.length = d.ps.length then retOf (exec ⟨callN p n, p.gs⟩ d.body (as.map some ++ List.replicate (d.ns.length - as.length) none) st) else .no
    | none => .no) := by rw [callN]
end Mi
namespace Mi
open PySem L2

def Slots (g : Gd) (ρ : List Addr) (H : Hp) (η : Env) (σ : St) : Prop :=
  η.length = σ.length ∧ ∀ (i : Nat) v, η[i]? = some (some v) → ∃ V, σ[i]? = some (some V) ∧ Rel g ρ H v V
def XR (g : Gd) (ρ : List Addr) (H : Hp) (e : Exn) (cls : Value) (d : Option Addr) : Prop :=
  cls = g.xc e.c ∧ ((e.ks = [] ∧ e.xs = [] ∧ d = none) ∨ ∃ a kvs, d = some a ∧ H a = some (.xd kvs) ∧ kvs.map (·.1) = e.ks.map tx ∧ Rels g ρ H e.xs (kvs.map (·.2)))

section
variable {g : Gd} {ρ ρ' : List Addr} {H H' : Hp} {st : Store} {α β : Type}
theorem Slots.ext {η : Env} {σ : St} (s : Slots g ρ H η σ) (e : Ext ρ H ρ' H') : Slots g ρ' H' η σ :=
  ⟨s.1, fun i v h => let ⟨V, h1, h2⟩ := s.2 i v h; ⟨V, h1, h2.ext e⟩⟩
theorem Slots.set {η : Env} {σ : St} (s : Slots g ρ H η σ) {v : Val} {V : L2.V} (i : Nat) (h : Rel g ρ H v V) : Slots g ρ H (η.set i (some v)) (σ.set i (some V)) := by
  refine ⟨by simp [s.1], fun j u hj => ?_⟩
  by_cases e : i = j
  · subst e
    by_cases hl : i < η.length
    · rw [List.getElem?_set_self hl] at hj
      rw [List.getElem?_set_self (by rw [← s.1]; exact hl)]
      cases hj
      exact ⟨V, rfl, h⟩
    · rw [List.getElem?_eq_none (by simpa using hl)] at hj
      cases hj
  · rw [List.getElem?_set_ne e] at hj ⊢
    exact s.2 j u hj
theorem Slots.unset {η : Env} {σ : St} (s : Slots g ρ H η σ) (i : Nat) : Slots g ρ H (η.set i none) (σ.set i none) := by
  refine ⟨by simp [s.1], fun j u hj => ?_⟩
  by_cases e : i = j
  · subst e
    by_cases hl : i < η.length
    · rw [List.getElem?_set_self hl] at hj
      cases hj
    · rw [List.getElem?_eq_none (by simpa using hl)] at hj
      cases hj
  · rw [List.getElem?_set_ne e] at hj ⊢
    exact s.2 j u hj
theorem Slots.wipe {η : Env} {σ : St} (s : Slots g ρ H η σ) : ∀ vs : List Nat, Slots g ρ H (wipeE η vs) (wipe σ vs)
  | [] => s
  | v :: vs => (Slots.wipe s vs).unset v

def Post (g : Gd) (W : Value → Option Addr → Hp → Prop) (ρ : List Addr) (H : Hp) (r : Res α) (Q : α → List Addr → Store → Hp → Prop) : Prop := match r with
  | .ok v st' => ∀ ρ' H', Ext ρ H ρ' H' → Wd g ρ' st' H' → Q v ρ' st' H'
  | .ex e st' => ∀ ρ' H' cls d, Ext ρ H ρ' H' → Wd g ρ' st' H' → XR g ρ' H' e cls d → W cls d H'
  | .no => False
variable {W : Value → Option Addr → Hp → Prop}
theorem Post.mono {r : Res α} {Q : α → List Addr → Store → Hp → Prop} (h : Post g W ρ H r Q) (e : Ext ρ H ρ' H') : Post g W ρ' H' r Q := by
  cases r with
  | ok v st' => exact fun ρ2 H2 e2 w => h ρ2 H2 (e.trans e2) w
  | ex x st' => exact fun ρ2 H2 c d e2 w => h ρ2 H2 c d (e.trans e2) w
  | no => exact h
theorem Post.bind {r : Res α} {f : α → Store → Res β} {Q : β → List Addr → Store → Hp → Prop} (h : Post g W ρ H (r.bind f) Q) : Post g W ρ H r (fun v ρ' st' H' => Post g W ρ' H' (f v st') Q) := by
  cases r with
  | ok v st' => exact fun ρ2 H2 e2 w => Post.mono h e2
  | ex x st' => exact h
  | no => exact h
theorem Post.imp {r : Res α} {Q Q' : α → List Addr → Store → Hp → Prop} (h : Post g W ρ H r Q) (k : ∀ v ρ' st' H', Ext ρ H ρ' H' → Wd g ρ' st' H' → Q v ρ' st' H' → Q' v ρ' st' H') : Post g W ρ H r Q' := by
  cases r with
  | ok v st' => exact fun ρ2 H2 e2 w => k _ _ _ _ e2 w (h ρ2 H2 e2 w)
  | ex x st' => exact h
  | no => exact h
theorem Post.opt {o : Option α} {Q : α → List Addr → Store → Hp → Prop} (h : Post g W ρ H (opt o st) Q) : ∃ v, o = some v ∧ ∀ ρ' H', Ext ρ H ρ' H' → Wd g ρ' st H' → Q v ρ' st H' := by
  cases o with
  | none => exact (show False from h).elim
  | some v => exact ⟨v, rfl, h⟩

/-! readings -/
variable {σ : St}
def SE (g : Gd) (W : WX) (F : Env → Store → Res Val) : TE := fun σ H Q => ∃ ρ st η, Wd g ρ st H ∧ Slots g ρ H η σ ∧
  Post g (fun c d H' => W c d σ H') ρ H (F η st) fun v ρ' _ H' => ∀ V, Rel g ρ' H' v V → Q V H'
def SA (g : Gd) (W : WX) (F : Env → Store → Res (List Val)) : TA := fun σ H Q => ∃ ρ st η, Wd g ρ st H ∧ Slots g ρ H η σ ∧
  Post g (fun c d H' => W c d σ H') ρ H (F η st) fun v ρ' _ H' => ∀ V, Rels g ρ' H' v V → Q V H'
def STt (g : Gd) (W : WX) (F : Env → Store → Res Bool) : TT := fun σ H Q => ∃ ρ st η, Wd g ρ st H ∧ Slots g ρ H η σ ∧
  Post g (fun c d H' => W c d σ H') ρ H (F η st) fun b _ _ H' => Q b H'
def SO (g : Gd) (W : WX) (F : Env → Store → Res (Option Int)) : TO := fun σ H Q => ∃ ρ st η, Wd g ρ st H ∧ Slots g ρ H η σ ∧
  Post g (fun c d H' => W c d σ H') ρ H (F η st) fun b _ _ H' => Q b H'
/-- an iterator walks the items while the store says so -/
def Wk (g : Gd) (J : It) (n : Option Nat) (xs : List Val) (ρ : List Addr) (H : Hp) : Prop := ∀ ρ' st' H', Ext ρ H ρ' H' → Wd g ρ' st' H' → ckOf n xs st' = true →
  (∀ i x, xs[i]? = some x → J.go i H' ∧ ∀ V H2, J.yld i H' V H2 → H2 = H' ∧ Rel g ρ' H' x V) ∧ (∀ i, xs.length ≤ i → J.stop i H')
def SI (g : Gd) (W : WX) (F : Env → Store → Res (List Val × Option Nat)) : TI := fun σ H R => ∃ ρ st η, Wd g ρ st H ∧ Slots g ρ H η σ ∧
  Post g (fun c d H' => W c d σ H') ρ H (F η st) fun p ρ' st' H' => ckOf p.2 p.1 st' = true ∧ ∀ J, Wk g J p.2 p.1 ρ' H' → R J H'
end

/-- what is made may be locked at once -/
def Sh (Q : VK) : VK := fun v H => Q v H ∨ ∃ d u, H d = some u ∧ Mut (some u) ∧ ∀ od, Q v (upd H d (.frz od u))
theorem EP.sh {X : Cx} {pins : List (Addr × Obj)} {σ : St} {Q : VK} {u : Value} {s : Shared} (h : EP X pins σ (Sh Q) u s) : EP X pins σ Q u s := by
  obtain ⟨v, H', I, r, q⟩ := h
  rcases q with q | ⟨d, o, hd, mu, q⟩
  · exact ⟨v, H', I, r, q⟩
  · obtain ⟨od, I2⟩ := I.lock hd mu
    exact ⟨v, _, I2, r, q od⟩
theorem PE.sh {X : Cx} {e : Expr} {t : TE} (h : PE X e t) : PE X e (fun σ H Q => t σ H (Sh Q)) := ⟨fun pins s σ H Q I q => thn (h.run pins s σ H _ I q) fun _ _ h => EP.sh h⟩
theorem PE.imp {X : Cx} {e : Expr} {t t' : TE} (h : PE X e t) (k : ∀ σ H Q, t' σ H Q → t σ H Q) : PE X e t' := ⟨fun pins s σ H Q I q => h.run pins s σ H Q I (k _ _ _ q)⟩
theorem PT.imp {X : Cx} {e : Expr} {t t' : TT} (h : PT X e t) (k : ∀ σ H Q, t' σ H Q → t σ H Q) : PT X e t' := ⟨fun pins s σ H Q I q => h.run pins s σ H Q I (k _ _ _ q)⟩
theorem PW.imp {X : Cx} {e : Expr} {t t' : TT} (h : PW X e t) (k : ∀ σ H Q, t' σ H Q → t σ H Q) : PW X e t' := ⟨fun wh pins s σ H Q I q => h.run wh pins s σ H Q I (k _ _ _ q)⟩
theorem PA.imp {X : Cx} {e : List Expr} {t t' : TA} (h : PA X e t) (k : ∀ σ H Q, t' σ H Q → t σ H Q) : PA X e t' := ⟨fun pos pins s σ H Q I q => h.run pos pins s σ H Q I (k _ _ _ q)⟩
theorem PS.imp {X : Cx} {e : Stmt} {t t' : TS} (h : PS X e t) (k : ∀ D σ H, t' D σ H → t D σ H) : PS X e t' := ⟨fun pins s σ H Q I q => h.run pins s σ H Q I (k _ _ _ q)⟩
theorem PSs.imp {X : Cx} {e : List Stmt} {t t' : TS} (h : PSs X e t) (k : ∀ D σ H, t' D σ H → t D σ H) : PSs X e t' := ⟨fun pins s σ H Q I q => h.run pins s σ H Q I (k _ _ _ q)⟩
theorem PI.imp {X : Cx} {tg e : Expr} {t t' : TI} (h : PI X tg e t) (k : ∀ σ H Q, t' σ H Q → t σ H Q) : PI X tg e t' := ⟨fun pins s σ H Q I q => h.run pins s σ H Q I (k _ _ _ q)⟩

section
variable {X : Cx} {g : Gd} {W : WX} {a b : Expr} {Fa Fb : Env → Store → Res Val} {pos : Pos}
/-- one part -/
theorem se_un {F : Env → Store → Res Val} {G : Val → Env → Store → Res Val} (hF : ∀ η st, F η st = (Fa η st).bind fun x st => G x η st) {r : V → Hp → VK → Prop}
    (k : ∀ ρ st H σ η x V Q, Wd g ρ st H → Slots g ρ H η σ → Rel g ρ H x V → Post g (fun c d H' => W c d σ H') ρ H (G x η st) (fun v ρ' _ H' => ∀ V, Rel g ρ' H' v V → Q V H') → r V H Q) :
    ∀ σ H Q, SE g W F σ H Q → SE g W Fa σ H fun V H1 => r V H1 Q := by
  rintro σ H Q ⟨ρ, st, η, w, s, p⟩
  rw [hF] at p
  refine ⟨ρ, st, η, w, s, p.bind.imp fun v ρ1 st1 H1 e1 w1 q V rv => ?_⟩
  exact k ρ1 st1 H1 σ η v V Q w1 (s.ext e1) rv q
/-- two parts -/
theorem se_bin {F : Env → Store → Res Val} {G : Val → Val → Store → Res Val} (hF : ∀ η st, F η st = (Fa η st).bind fun x st => (Fb η st).bind fun y st => G x y st) {r : R2}
    (k : ∀ ρ st H σ x y V U Q, Wd g ρ st H → Rel g ρ H x V → Rel g ρ H y U → Post g (fun c d H' => W c d σ H') ρ H (G x y st) (fun v ρ' _ H' => ∀ V, Rel g ρ' H' v V → Q V H') → r V U H Q) :
    ∀ σ H Q, SE g W F σ H Q → tOp r (SE g W Fa) (SE g W Fb) σ H Q := by
  rintro σ H Q ⟨ρ, st, η, w, s, p⟩
  rw [hF] at p
  refine ⟨ρ, st, η, w, s, p.bind.imp fun v ρ1 st1 H1 e1 w1 q V rv => ?_⟩
  refine ⟨ρ1, st1, η, w1, s.ext e1, q.bind.imp fun u ρ2 st2 H2 e2 w2 q2 U ru => ?_⟩
  exact k ρ2 st2 H2 σ v u V U Q w2 (rv.ext e2) ru q2
/-- arguments, then something -/
theorem se_args {F : Env → Store → Res Val} {Fs : Env → Store → Res (List Val)} {G : List Val → Store → Res Val} (hF : ∀ η st, F η st = (Fs η st).bind fun xs st => G xs st) {r : St → List V → Hp → VK → Prop}
    (k : ∀ ρ st H σ xs vs Q, Wd g ρ st H → Rels g ρ H xs vs → Post g (fun c d H' => W c d σ H') ρ H (G xs st) (fun v ρ' _ H' => ∀ V, Rel g ρ' H' v V → Q V H') → r σ vs H Q) :
    ∀ σ H Q, SE g W F σ H Q → SA g W Fs σ H fun vs H1 => r σ vs H1 Q := by
  rintro σ H Q ⟨ρ, st, η, w, s, p⟩
  rw [hF] at p
  refine ⟨ρ, st, η, w, s, p.bind.imp fun v ρ1 st1 H1 e1 w1 q V rv => ?_⟩
  exact k ρ1 st1 H1 σ v V Q w1 rv q
end
end Mi
namespace Mi
open PySem L2 PySem.SeqAt

def Apart (g : Gd) (H : Hp) : Prop := ∀ a o, g.K.lookup a = some o → H a = none
theorem apart {X : Cx} {g : Gd} {pins : List (Addr × Obj)} {σ : St} {H : Hp} {s : Shared} (hK : X.K = g.K) (I : Inv X pins σ H s) : Apart g H := fun a o h =>
  (I.bs a o (I.mod.kin a o (by rw [hK]; exact h))).2

section
variable {g : Gd} {ρ : List Addr} {H : Hp} {st : Store}
theorem ktup_inj {K : PySem.W.Frag} {a : Addr} {xs ys : List V} (h : KTup K a xs) (k : KTup K a ys) : xs = ys := by
  obtain ⟨o, its, n, h1, h2, h3, h4, h5⟩ := h
  obtain ⟨o', its', n', k1, k2, k3, k4, k5⟩ := k
  rw [h1] at k1; cases k1
  rw [h3] at k3
  injection k3 with e _
  subst e
  exact h5.inj k5
theorem klst_inj {K : PySem.W.Frag} {a : Addr} {xs ys : List V} (h : KLst K a xs) (k : KLst K a ys) : xs = ys := by
  obtain ⟨o, its, n, h1, h2, h3, h4, h5, h6⟩ := h
  obtain ⟨o', its', n', k1, k2, k3, k4, k5, k6⟩ := k
  rw [h1] at k1; cases k1
  rw [h4] at k4
  injection k4 with e _
  subst e
  exact h6.inj k6
theorem ktup_klst {K : PySem.W.Frag} {a : Addr} {xs ys : List V} (h : KTup K a xs) (k : KLst K a ys) : False := by
  obtain ⟨o, its, n, h1, h2, _⟩ := h
  obtain ⟨o', its', n', k1, k2, _⟩ := k
  rw [h1] at k1; cases k1
  rw [h2] at k2; simp at k2
theorem ktup_none (ap : Apart g H) {a : Addr} {xs : List V} (h : KTup g.K a xs) : H a = none := by
  obtain ⟨o, its, n, h1, _⟩ := h
  exact ap _ _ h1
theorem klst_none (ap : Apart g H) {a : Addr} {xs : List V} (h : KLst g.K a xs) : H a = none := by
  obtain ⟨o, its, n, h1, _⟩ := h
  exact ap _ _ h1

/-! what values are seen as -/
theorem asL_sd (w : Wd g ρ st H) {x : Val} {v : V} {xs : List Val} (h : Rel g ρ H x v) (e : asL st x = some xs) : ∃ a vs, v = .ref a ∧ SqL g.K H a vs ∧ xs.length ≤ sizeLine ∧ Rels g ρ H xs vs := by
  cases x with
  | lst ys =>
    simp only [asL, Option.some.injEq] at e; subst e
    simp only [Rel] at h
    obtain ⟨a, vs, rfl, h1, h2, h3⟩ := h
    exact ⟨a, vs, rfl, sqL_of h1, h2, h3⟩
  | loc n =>
    simp only [asL] at e
    simp only [Rel] at h
    obtain ⟨a, rfl, h1⟩ := h
    cases q : st[n]? with
    | none => rw [q] at e; cases e
    | some o =>
      rw [q] at e
      cases o with
      | lst ys =>
        simp only [Option.some.injEq] at e; subst e
        obtain ⟨vs, h2, h3, h4⟩ := w.ob n _ a q h1
        exact ⟨a, vs, rfl, .inl (.inl h2), h3, h4⟩
      | _ => cases e
  | _ => simp [asL] at e
theorem tup_sd {x : List Val} {v : V} (h : Rel g ρ H (.tup x) v) : ∃ a vs, v = .ref a ∧ SqT g.K H a vs ∧ x.length ≤ sizeLine ∧ Rels g ρ H x vs := by
  simp only [Rel] at h
  obtain ⟨a, vs, rfl, h1, h2, h3⟩ := h
  exact ⟨a, vs, rfl, sqT_of h1, h2, h3⟩
theorem asS_sd (w : Wd g ρ st H) {x : Val} {v : V} {xs : List Val} (h : Rel g ρ H x v) (e : asS st x = some xs) : ∃ a vs, v = .ref a ∧ (SqL g.K H a vs ∨ SqT g.K H a vs) ∧ xs.length ≤ sizeLine ∧ Rels g ρ H xs vs := by
  by_cases ht : ∃ ys, x = .tup ys
  · obtain ⟨ys, rfl⟩ := ht
    simp only [asS, Option.some.injEq] at e; subst e
    obtain ⟨a, vs, rfl, h1, h2, h3⟩ := tup_sd h
    exact ⟨a, vs, rfl, .inr h1, h2, h3⟩
  · have e' : asL st x = some xs := by
      cases x <;> first | exact e | exact absurd ⟨_, rfl⟩ ht
    obtain ⟨a, vs, rfl, h1, h2, h3⟩ := asL_sd w h e'
    exact ⟨a, vs, rfl, .inl h1, h2, h3⟩
theorem asD_sd (w : Wd g ρ st H) {x : Val} {v : V} {p : List Txt × List Val} (h : Rel g ρ H x v) (e : asD st x = some p) : ∃ a kvs, v = .ref a ∧ Rd H a (.dK kvs) ∧ p.2.length ≤ sizeLine ∧ (kvs.map (·.1) = p.1.map tk ∧ KsOk p.1) ∧ Rels g ρ H p.2 (kvs.map (·.2)) := by
  cases x with
  | dct ks ys =>
    simp only [asD, Option.some.injEq] at e; subst e
    simp only [Rel] at h
    obtain ⟨a, vs, rfl, h1, h2, h3, h4⟩ := h
    exact ⟨a, vs, rfl, .inr h1, h2, h3, h4⟩
  | loc n =>
    simp only [asD] at e
    simp only [Rel] at h
    obtain ⟨a, rfl, h1⟩ := h
    cases q : st[n]? with
    | none => rw [q] at e; cases e
    | some o =>
      rw [q] at e
      cases o with
      | dct ks ys =>
        simp only [Option.some.injEq] at e; subst e
        obtain ⟨vs, h2, h3, h4, h5⟩ := w.ob n _ a q h1
        exact ⟨a, vs, rfl, .inl h2, h3, h4, h5⟩
      | _ => cases e
  | _ => simp [asD] at e
theorem key_sd {x : Val} {v : V} {k : Txt} (h : Rel g ρ H x v) (e : keyOf x = some k) : v = kV (tk k) ∧ k.length ≤ sizeLine := by
  cases x <;> simp only [keyOf, reduceCtorEq, Option.some.injEq] at e
  subst e; simp only [Rel] at h; exact ⟨h.1, h.2⟩
theorem look_sd {k : Txt} : ∀ {ks : List Txt} {xs : List Val} {x : Val} {kvs : List (Key × V)}, look k ks xs = some x → kvs.map (·.1) = ks.map tk → Rels g ρ H xs (kvs.map (·.2)) → ∃ v, valV kvs (tk k) = some v ∧ Rel g ρ H x v
  | [], xs, x, kvs, h, _, _ => by simp [look] at h
  | k' :: ks, [], x, kvs, h, _, _ => by simp [look] at h
  | k' :: ks, y :: xs, x, kvs, h, e, r => by
    cases kvs with
    | nil => cases e
    | cons p kvs =>
      simp only [List.map_cons, List.cons.injEq] at e
      obtain ⟨v, u, e2, r1, r2⟩ := r.cons_inv
      simp only [List.map_cons, List.cons.injEq] at e2
      obtain ⟨e3, e4⟩ := e2
      simp only [look] at h
      split at h
      · rename_i hk
        cases h
        exact ⟨p.2, valV_pos (by rw [e.1, hk]), by rw [e3]; exact r1⟩
      · rename_i hk
        rw [valV_neg (fun z => hk (tk_inj (e.1.symm.trans z)))]
        exact look_sd h e.2 (by rw [e4]; exact r2)
theorem look_none {k : Txt} : ∀ {ks : List Txt} {xs : List Val} {kvs : List (Key × V)}, look k ks xs = none → kvs.map (·.1) = ks.map tk → Rels g ρ H xs (kvs.map (·.2)) → valV kvs (tk k) = none
  | [], xs, kvs, _, e, _ => by
    cases kvs with
    | nil => rfl
    | cons p r => cases e
  | k' :: ks, [], kvs, h, e, r => by
    cases kvs with
    | nil => cases e
    | cons p kvs => simp only [Rels, List.map_cons] at r; cases r
  | k' :: ks, y :: xs, kvs, h, e, r => by
    cases kvs with
    | nil => cases e
    | cons p kvs =>
      simp only [List.map_cons, List.cons.injEq] at e
      obtain ⟨v, u, e2, r1, r2⟩ := r.cons_inv
      simp only [List.map_cons, List.cons.injEq] at e2
      simp only [look] at h
      split at h
      · cases h
      · rename_i hk
        rw [valV_neg (fun z => hk (tk_inj (e.1.symm.trans z)))]
        exact look_none h e.2 (by rw [e2.2]; exact r2)
theorem any_keys {kvs : List (Key × V)} {ks : List Txt} {k : Txt} (e : kvs.map (·.1) = ks.map tk) : (kvs.any fun kv => decide (kv.1 = tk k)) = decide (k ∈ ks) := by
  have h1 : (kvs.any fun kv => decide (kv.1 = tk k)) = (kvs.map (·.1)).any fun k' => decide (k' = tk k) := by rw [List.any_map]; rfl
  rw [h1, e]
  induction ks generalizing kvs with
  | nil => simp
  | cons a ks ih =>
    cases kvs with
    | nil => cases e
    | cons p kvs =>
      simp only [List.map_cons, List.cons.injEq] at e
      simp only [List.map_cons, List.any_cons, List.mem_cons]
      rw [ih (kvs := kvs) e.2 (by rw [List.any_map]; rfl)]
      by_cases h : k = a
      · subst h; simp
      · have : tk a ≠ tk k := fun z => h (tk_inj z).symm
        simp [h, this]
theorem setA_sd {k : Txt} {x : Val} {v : V} (hx : Rel g ρ H x v) : ∀ {ks : List Txt} {xs : List Val} {kvs : List (Key × V)}, kvs.map (·.1) = ks.map tk → Rels g ρ H xs (kvs.map (·.2)) →
    Rels g ρ H (setA k x ks xs) ((kvs.map fun kv => if kv.1 = tk k then (kv.1, v) else kv).map (·.2))
  | [], xs, kvs, e, r => by
    cases kvs with
    | nil => simp only [setA]; exact r
    | cons p q => cases e
  | k' :: ks, [], kvs, e, r => by
    cases kvs with
    | nil => cases e
    | cons p q => simp only [Rels, List.map_cons] at r; cases r
  | k' :: ks, y :: xs, kvs, e, r => by
    cases kvs with
    | nil => cases e
    | cons p q =>
      simp only [List.map_cons, List.cons.injEq] at e
      obtain ⟨u, t, e2, r1, r2⟩ := r.cons_inv
      simp only [List.map_cons, List.cons.injEq] at e2
      simp only [setA, List.map_cons]
      refine .cons ?_ (setA_sd hx e.2 (by rw [e2.2]; exact r2))
      by_cases h : p.1 = tk k
      · rw [if_pos h, if_pos (tk_inj (e.1.symm.trans h))]; exact hx
      · rw [if_neg h, if_neg (fun z => h (by rw [e.1, z])), e2.1]; exact r1
theorem put_sd {k : Txt} {x : Val} {v : V} {ks : List Txt} {xs : List Val} {kvs : List (Key × V)} (hx : Rel g ρ H x v) (e : kvs.map (·.1) = ks.map tk) (r : Rels g ρ H xs (kvs.map (·.2))) :
    (putK kvs (tk k) v).map (·.1) = (putD k x ks xs).1.map tk ∧ Rels g ρ H (putD k x ks xs).2 ((putK kvs (tk k) v).map (·.2)) := by
  unfold putK putD
  rw [any_keys e]
  by_cases h : k ∈ ks
  · rw [if_pos (decide_eq_true h), if_pos h]
    refine ⟨?_, setA_sd hx e r⟩
    rw [← e, List.map_map]
    refine List.map_congr_left fun p _ => ?_
    show (if p.1 = tk k then (p.1, v) else p).1 = p.1
    split <;> rfl
  · rw [if_neg (by simpa using h), if_neg h]
    refine ⟨by rw [List.map_append, List.map_append, e]; rfl, ?_⟩
    rw [List.map_append]
    exact r.append (.cons hx .nil)
theorem putD_ks {k : Txt} {x : Val} {ks : List Txt} {xs : List Val} (h : KsOk ks) (hk : k.length ≤ sizeLine) : KsOk (putD k x ks xs).1 := by
  unfold putD
  split
  · exact h
  · intro z hz
    rcases List.mem_append.mp hz with hz | hz
    · exact h z hz
    · have : z = k := by simpa using hz
      rw [this]; exact hk
theorem setA_len (k : Txt) (x : Val) : ∀ (ks : List Txt) (xs : List Val), (setA k x ks xs).length = xs.length
  | [], xs => rfl
  | a :: ks, [] => rfl
  | a :: ks, b :: xs => by simp [setA, setA_len k x ks xs]
theorem putD_len (k : Txt) (x : Val) (ks : List Txt) (xs : List Val) : (putD k x ks xs).2.length ≤ xs.length + 1 := by
  unfold putD
  split
  · show (setA k x ks xs).length ≤ _
    rw [setA_len]; omega
  · simp

/-! new things -/
theorem newL (w : Wd g ρ st H) {xs : List Val} {vs : List V} (h : Rels g ρ H xs vs) (hl : xs.length ≤ sizeLine) {p : Addr} (hp : H p = none) (od : Obj) : Rel g ρ (upd H p (.frz od (.lst vs))) (.lst xs) (.ref p) := by
  simp only [Rel]
  exact ⟨p, vs, rfl, .inl ⟨od, upd_same⟩, hl, h.ext (Ext.new hp)⟩
theorem newT (w : Wd g ρ st H) {xs : List Val} {vs : List V} (h : Rels g ρ H xs vs) (hl : xs.length ≤ sizeLine) {p : Addr} (hp : H p = none) : Rel g ρ (upd H p (.tup vs)) (.tup xs) (.ref p) := by
  simp only [Rel]
  exact ⟨p, vs, rfl, .inl upd_same, hl, h.ext (Ext.new hp)⟩
theorem newD (w : Wd g ρ st H) {ks : List Txt} {xs : List Val} {kvs : List (Key × V)} (e : kvs.map (·.1) = ks.map tk ∧ KsOk ks) (h : Rels g ρ H xs (kvs.map (·.2))) (hl : xs.length ≤ sizeLine) {p : Addr} (hp : H p = none) (od : Obj) : Rel g ρ (upd H p (.frz od (.dK kvs))) (.dct ks xs) (.ref p) := by
  simp only [Rel]
  exact ⟨p, kvs, rfl, ⟨od, upd_same⟩, hl, e, h.ext (Ext.new hp)⟩
theorem rel_int {i : Int} : Rel g ρ H (.int i) (.int i) := by simp only [Rel]
theorem rel_bl {i : Bool} : Rel g ρ H (.bl i) (.bl i) := by simp only [Rel]
theorem rel_non : Rel g ρ H .non .non := by simp only [Rel]
theorem rel_str {x : Txt} (h : x.length ≤ sizeLine) : Rel g ρ H (.str x) (.str (tx x)) := by simp only [Rel]; exact ⟨trivial, h⟩
/-- a new list, locked: for Sh -/
theorem shL {Q : VK} (w : Wd g ρ st H) {xs : List Val} {vs : List V} (h : Rels g ρ H xs vs) (hl : xs.length ≤ sizeLine)
    (q : ∀ ρ' H', Ext ρ H ρ' H' → Wd g ρ' st H' → ∀ V, Rel g ρ' H' (.lst xs) V → Q V H') {p : Addr} (hp : H p = none) : Sh Q (.ref p) (upd H p (.lst vs)) :=
  .inr ⟨p, .lst vs, upd_same, trivial, fun od => by
    rw [upd_upd]
    exact q ρ _ (Ext.new hp) (w.new hp) _ (newL w h hl hp od)⟩
theorem shD {Q : VK} (w : Wd g ρ st H) {ks : List Txt} {xs : List Val} {kvs : List (Key × V)} (e : kvs.map (·.1) = ks.map tk ∧ KsOk ks) (h : Rels g ρ H xs (kvs.map (·.2))) (hl : xs.length ≤ sizeLine)
    (q : ∀ ρ' H', Ext ρ H ρ' H' → Wd g ρ' st H' → ∀ V, Rel g ρ' H' (.dct ks xs) V → Q V H') {p : Addr} (hp : H p = none) : Sh Q (.ref p) (upd H p (.dK kvs)) :=
  .inr ⟨p, .dK kvs, upd_same, trivial, fun od => by
    rw [upd_upd]
    exact q ρ _ (Ext.new hp) (w.new hp) _ (newD w e h hl hp od)⟩
end
end Mi
namespace Mi
open PySem L2 PySem.SeqAt PySem.W PyProof.Rows PySem.Spec PySem.Calls
/-- a dict lies there -/
def DictAt (h : Heap) (l : Addr) : Prop := ∃ es ep, h.get? l = some { cls := .type "dict", dict := none, data := .dict es ep, slots := #[] }
abbrev dO (es : Array DictEntry) (ep : Nat) : Obj := { cls := .type "dict", dict := none, data := .dict es ep, slots := #[] }

theorem dict_no_none (l : Addr) (es : Array DictEntry) (ep : Nat)  : Meets (Builtin.«dict.__eq__» ⟨[.ref l, .none], []⟩) (fun _ R s => s.heap.get? l = some (dO es ep) ∧ R (.ok (.ret .notImplemented)) s) :=
  .of_wp fun prog w A R s h => by obtain ⟨hp, g, d, tk, os⟩ := s; obtain ⟨hl, h⟩ := h; have f1 := F.sub_NoneType_dict; wp_walk using wpAny_loadPart' hl, wpAny_load hl; exact ⟨_, rfl, h⟩
theorem dict_no_bool (l : Addr) (es : Array DictEntry) (ep : Nat) (b : Bool) : Meets (Builtin.«dict.__eq__» ⟨[.ref l, .bool b], []⟩) (fun _ R s => s.heap.get? l = some (dO es ep) ∧ R (.ok (.ret .notImplemented)) s) :=
  .of_wp fun prog w A R s h => by obtain ⟨hp, g, d, tk, os⟩ := s; obtain ⟨hl, h⟩ := h; have f1 := F.sub_bool_dict; wp_walk using wpAny_loadPart' hl, wpAny_load hl; exact ⟨_, rfl, h⟩
theorem bool_no_dict (l : Addr) (es : Array DictEntry) (ep : Nat) (b : Bool) : Meets (Builtin.«int.__eq__» ⟨[.bool b, .ref l], []⟩) (fun _ R s => s.heap.get? l = some (dO es ep) ∧ R (.ok (.ret .notImplemented)) s) :=
  .of_wp fun prog w A R s h => by obtain ⟨hp, g, d, tk, os⟩ := s; obtain ⟨hl, h⟩ := h; wp_walk using wpAny_loadPart' hl, wpAny_load hl; exact ⟨_, rfl, h⟩
theorem dict_no_int (l : Addr) (es : Array DictEntry) (ep : Nat) (b : Int) (u : Tok) : Meets (Builtin.«dict.__eq__» ⟨[.ref l, .int b u], []⟩) (fun _ R s => s.heap.get? l = some (dO es ep) ∧ R (.ok (.ret .notImplemented)) s) :=
  .of_wp fun prog w A R s h => by obtain ⟨hp, g, d, tk, os⟩ := s; obtain ⟨hl, h⟩ := h; have f1 := F.sub_int_dict; wp_walk using wpAny_loadPart' hl, wpAny_load hl; exact ⟨_, rfl, h⟩
theorem int_no_dict (l : Addr) (es : Array DictEntry) (ep : Nat) (b : Int) (u : Tok) : Meets (Builtin.«int.__eq__» ⟨[.int b u, .ref l], []⟩) (fun _ R s => s.heap.get? l = some (dO es ep) ∧ R (.ok (.ret .notImplemented)) s) :=
  .of_wp fun prog w A R s h => by obtain ⟨hp, g, d, tk, os⟩ := s; obtain ⟨hl, h⟩ := h; wp_walk using wpAny_loadPart' hl, wpAny_load hl; exact ⟨_, rfl, h⟩
theorem dict_no_str (l : Addr) (es : Array DictEntry) (ep : Nat) (b : Str) (u : Tok) : Meets (Builtin.«dict.__eq__» ⟨[.ref l, .str b u], []⟩) (fun _ R s => s.heap.get? l = some (dO es ep) ∧ R (.ok (.ret .notImplemented)) s) :=
  .of_wp fun prog w A R s h => by obtain ⟨hp, g, d, tk, os⟩ := s; obtain ⟨hl, h⟩ := h; have f1 := F.sub_str_dict; wp_walk using wpAny_loadPart' hl, wpAny_load hl; exact ⟨_, rfl, h⟩
theorem str_no_dict (l : Addr) (es : Array DictEntry) (ep : Nat) (b : Str) (u : Tok) : Meets (Builtin.«str.__eq__» ⟨[.str b u, .ref l], []⟩) (fun _ R s => s.heap.get? l = some (dO es ep) ∧ R (.ok (.ret .notImplemented)) s) :=
  .of_wp fun prog w A R s h => by obtain ⟨hp, g, d, tk, os⟩ := s; obtain ⟨hl, h⟩ := h; wp_walk using wpAny_loadPart' hl, wpAny_load hl; exact ⟨_, rfl, h⟩
theorem dict_no_list (l b : Addr) (es : Array DictEntry) (ep : Nat) (items : Array Value) (n : Nat) (dd : Option Addr) (sl : Array (Option Value)) : Meets (Builtin.«dict.__eq__» ⟨[.ref l, .ref b], []⟩) (fun _ R s => s.heap.get? l = some (dO es ep) ∧ s.heap.get? b = some { cls := .type "list", dict := dd, data := .seq items n, slots := sl } ∧ R (.ok (.ret .notImplemented)) s) :=
  .of_wp fun prog w A R s h => by obtain ⟨hp, g, d, tk, os⟩ := s; obtain ⟨hl, hb, h⟩ := h; have f1 := F.sub_list_dict; wp_walk using wpAny_loadPart' hl, wpAny_load hl, wpAny_loadPart' hb, wpAny_load hb; exact ⟨_, rfl, h⟩
theorem list_no_dict (l b : Addr) (es : Array DictEntry) (ep : Nat) (items : Array Value) (n : Nat) (dd : Option Addr) (sl : Array (Option Value)) : Meets (Builtin.«list.__eq__» ⟨[.ref b, .ref l], []⟩) (fun _ R s => s.heap.get? l = some (dO es ep) ∧ s.heap.get? b = some { cls := .type "list", dict := dd, data := .seq items n, slots := sl } ∧ R (.ok (.ret .notImplemented)) s) :=
  .of_wp fun prog w A R s h => by obtain ⟨hp, g, d, tk, os⟩ := s; obtain ⟨hl, hb, h⟩ := h; have f1 := F.sub_dict_list; wp_walk using wpAny_loadPart' hl, wpAny_load hl, wpAny_loadPart' hb, wpAny_load hb; exact ⟨_, rfl, h⟩
theorem dict_no_tuple (l b : Addr) (es : Array DictEntry) (ep : Nat) (items : Array Value) (n : Nat) (dd : Option Addr) (sl : Array (Option Value)) : Meets (Builtin.«dict.__eq__» ⟨[.ref l, .ref b], []⟩) (fun _ R s => s.heap.get? l = some (dO es ep) ∧ s.heap.get? b = some { cls := .type "tuple", dict := dd, data := .seq items n, slots := sl } ∧ R (.ok (.ret .notImplemented)) s) :=
  .of_wp fun prog w A R s h => by obtain ⟨hp, g, d, tk, os⟩ := s; obtain ⟨hl, hb, h⟩ := h; have f1 := F.sub_tuple_dict; wp_walk using wpAny_loadPart' hl, wpAny_load hl, wpAny_loadPart' hb, wpAny_load hb; exact ⟨_, rfl, h⟩
theorem tuple_no_dict (l b : Addr) (es : Array DictEntry) (ep : Nat) (items : Array Value) (n : Nat) (dd : Option Addr) (sl : Array (Option Value)) : Meets (Builtin.«tuple.__eq__» ⟨[.ref b, .ref l], []⟩) (fun _ R s => s.heap.get? l = some (dO es ep) ∧ s.heap.get? b = some { cls := .type "tuple", dict := dd, data := .seq items n, slots := sl } ∧ R (.ok (.ret .notImplemented)) s) :=
  .of_wp fun prog w A R s h => by obtain ⟨hp, g, d, tk, os⟩ := s; obtain ⟨hl, hb, h⟩ := h; have f1 := F.sub_dict_tuple; wp_walk using wpAny_loadPart' hl, wpAny_load hl, wpAny_loadPart' hb, wpAny_load hb; exact ⟨_, rfl, h⟩
section
variable {A : Around} {s : Shared}
theorem rc_dict_none {l : Addr}  (hl : DictAt s.heap l) (hu : A.units < cLine) : RcAt A s (.ref l) (.none) false := fun prog w E Q h => by
  obtain ⟨es, ep, ho⟩ := hl
  exact rc_eq_decline_or (k := false) ⟨_, ho, rfl⟩ rfl (by decide) F.sub_NoneType_dict F.slot_dict_eq F.slot_NoneType_eq_refl
    (fun _ hq => call_meets F.slot_dict_eq ⟨_, ho, rfl⟩ F.entry_dict_eq (F.args_dict_eq_2 _ _) (dict_no_none l es ep ) ⟨ho, hq⟩)
    (fun _ hq => call_gives F.slot_NoneType_eq_refl rfl F.entry_NoneType_eq (F.args_NoneType_eq_2 _ _) (NoneType___eq___none_ref_0 l) hq)
    (fun _ hq => wpAny_of_eq (rfl : isSame (.ref l) (.none) = pure false) hq) (.inr hu) h
theorem rc_none_dict {l : Addr}  (hl : DictAt s.heap l) (hu : A.units < cLine) : RcAt A s (.none) (.ref l) false := fun prog w E Q h => by
  obtain ⟨es, ep, ho⟩ := hl
  exact rc_eq_decline_or (k := false) rfl ⟨_, ho, rfl⟩ (by decide) F.sub_dict_NoneType F.slot_NoneType_eq F.slot_dict_eq_refl
    (fun _ hq => call_gives F.slot_NoneType_eq rfl F.entry_NoneType_eq (F.args_NoneType_eq_2 _ _) (NoneType___eq___none_ref_0 l) hq)
    (fun _ hq => call_meets F.slot_dict_eq_refl ⟨_, ho, rfl⟩ F.entry_dict_eq (F.args_dict_eq_2 _ _) (dict_no_none l es ep ) ⟨ho, hq⟩)
    (fun _ hq => wpAny_of_eq (rfl : isSame (.none) (.ref l) = pure false) hq) (.inr hu) h
theorem eq_dict_none {l : Addr}  (hl : DictAt s.heap l) (hu : A.units < cLine) : EqAt A s (.ref l) (.none) false := fun prog w E Q h => by
  unfold eqBool
  refine wpAny_holding ?_
  refine wpAny_ite_split (fun hab => absurd (eq_of_beq hab) nofun) (fun _ => ?_)
  exact wpAny_bind (rc_dict_none  hl hu prog w E _ (wpAny_truthy_bool h))
theorem eq_none_dict {l : Addr}  (hl : DictAt s.heap l) (hu : A.units < cLine) : EqAt A s (.none) (.ref l) false := fun prog w E Q h => by
  unfold eqBool
  refine wpAny_holding ?_
  refine wpAny_ite_split (fun hab => absurd (eq_of_beq hab) nofun) (fun _ => ?_)
  exact wpAny_bind (rc_none_dict  hl hu prog w E _ (wpAny_truthy_bool h))
theorem rc_dict_bool {l : Addr} (b : Bool) (hl : DictAt s.heap l) (hu : A.units < cLine) : RcAt A s (.ref l) (.bool b) false := fun prog w E Q h => by
  obtain ⟨es, ep, ho⟩ := hl
  exact rc_eq_decline_or (k := false) ⟨_, ho, rfl⟩ rfl (by decide) F.sub_bool_dict F.slot_dict_eq F.slot_bool_eq_refl
    (fun _ hq => call_meets F.slot_dict_eq ⟨_, ho, rfl⟩ F.entry_dict_eq (F.args_dict_eq_2 _ _) (dict_no_bool l es ep b) ⟨ho, hq⟩)
    (fun _ hq => call_meets F.slot_bool_eq_refl rfl F.entry_int_eq (F.args_int_eq_2 _ _) (bool_no_dict l es ep b) ⟨ho, hq⟩)
    (fun _ hq => wpAny_of_eq (rfl : isSame (.ref l) (.bool b) = pure false) hq) (.inr hu) h
theorem rc_bool_dict {l : Addr} (b : Bool) (hl : DictAt s.heap l) (hu : A.units < cLine) : RcAt A s (.bool b) (.ref l) false := fun prog w E Q h => by
  obtain ⟨es, ep, ho⟩ := hl
  exact rc_eq_decline_or (k := false) rfl ⟨_, ho, rfl⟩ (by decide) F.sub_dict_bool F.slot_bool_eq F.slot_dict_eq_refl
    (fun _ hq => call_meets F.slot_bool_eq rfl F.entry_int_eq (F.args_int_eq_2 _ _) (bool_no_dict l es ep b) ⟨ho, hq⟩)
    (fun _ hq => call_meets F.slot_dict_eq_refl ⟨_, ho, rfl⟩ F.entry_dict_eq (F.args_dict_eq_2 _ _) (dict_no_bool l es ep b) ⟨ho, hq⟩)
    (fun _ hq => wpAny_of_eq (rfl : isSame (.bool b) (.ref l) = pure false) hq) (.inr hu) h
theorem eq_dict_bool {l : Addr} (b : Bool) (hl : DictAt s.heap l) (hu : A.units < cLine) : EqAt A s (.ref l) (.bool b) false := fun prog w E Q h => by
  unfold eqBool
  refine wpAny_holding ?_
  refine wpAny_ite_split (fun hab => absurd (eq_of_beq hab) nofun) (fun _ => ?_)
  exact wpAny_bind (rc_dict_bool b hl hu prog w E _ (wpAny_truthy_bool h))
theorem eq_bool_dict {l : Addr} (b : Bool) (hl : DictAt s.heap l) (hu : A.units < cLine) : EqAt A s (.bool b) (.ref l) false := fun prog w E Q h => by
  unfold eqBool
  refine wpAny_holding ?_
  refine wpAny_ite_split (fun hab => absurd (eq_of_beq hab) nofun) (fun _ => ?_)
  exact wpAny_bind (rc_bool_dict b hl hu prog w E _ (wpAny_truthy_bool h))
theorem rc_dict_int {l : Addr} (b : Int) (u : Tok) (hl : DictAt s.heap l) (hu : A.units < cLine) : RcAt A s (.ref l) (.int b u) false := fun prog w E Q h => by
  obtain ⟨es, ep, ho⟩ := hl
  exact rc_eq_decline_or (k := false) ⟨_, ho, rfl⟩ (typeIs_int s b u) (by decide) F.sub_int_dict F.slot_dict_eq F.slot_int_eq_refl
    (fun _ hq => call_meets F.slot_dict_eq ⟨_, ho, rfl⟩ F.entry_dict_eq (F.args_dict_eq_2 _ _) (dict_no_int l es ep b u) ⟨ho, hq⟩)
    (fun _ hq => call_meets F.slot_int_eq_refl (typeIs_int s b u) F.entry_int_eq (F.args_int_eq_2 _ _) (int_no_dict l es ep b u) ⟨ho, hq⟩)
    (fun _ hq => wpAny_of_eq (rfl : isSame (.ref l) (.int b u) = pure false) hq) (.inr hu) h
theorem rc_int_dict {l : Addr} (b : Int) (u : Tok) (hl : DictAt s.heap l) (hu : A.units < cLine) : RcAt A s (.int b u) (.ref l) false := fun prog w E Q h => by
  obtain ⟨es, ep, ho⟩ := hl
  exact rc_eq_decline_or (k := false) (typeIs_int s b u) ⟨_, ho, rfl⟩ (by decide) F.sub_dict_int F.slot_int_eq F.slot_dict_eq_refl
    (fun _ hq => call_meets F.slot_int_eq (typeIs_int s b u) F.entry_int_eq (F.args_int_eq_2 _ _) (int_no_dict l es ep b u) ⟨ho, hq⟩)
    (fun _ hq => call_meets F.slot_dict_eq_refl ⟨_, ho, rfl⟩ F.entry_dict_eq (F.args_dict_eq_2 _ _) (dict_no_int l es ep b u) ⟨ho, hq⟩)
    (fun _ hq => wpAny_of_eq (rfl : isSame (.int b u) (.ref l) = pure false) hq) (.inr hu) h
theorem eq_dict_int {l : Addr} (b : Int) (u : Tok) (hl : DictAt s.heap l) (hu : A.units < cLine) : EqAt A s (.ref l) (.int b u) false := fun prog w E Q h => by
  unfold eqBool
  refine wpAny_holding ?_
  refine wpAny_ite_split (fun hab => absurd (eq_of_beq hab) nofun) (fun _ => ?_)
  exact wpAny_bind (rc_dict_int b u hl hu prog w E _ (wpAny_truthy_bool h))
theorem eq_int_dict {l : Addr} (b : Int) (u : Tok) (hl : DictAt s.heap l) (hu : A.units < cLine) : EqAt A s (.int b u) (.ref l) false := fun prog w E Q h => by
  unfold eqBool
  refine wpAny_holding ?_
  refine wpAny_ite_split (fun hab => absurd (eq_of_beq hab) nofun) (fun _ => ?_)
  exact wpAny_bind (rc_int_dict b u hl hu prog w E _ (wpAny_truthy_bool h))
theorem rc_dict_str {l : Addr} (b : Str) (u : Tok) (hl : DictAt s.heap l) (hu : A.units < cLine) : RcAt A s (.ref l) (.str b u) false := fun prog w E Q h => by
  obtain ⟨es, ep, ho⟩ := hl
  exact rc_eq_decline_or (k := false) ⟨_, ho, rfl⟩ (typeIs_str s b u) (by decide) F.sub_str_dict F.slot_dict_eq F.slot_str_eq_refl
    (fun _ hq => call_meets F.slot_dict_eq ⟨_, ho, rfl⟩ F.entry_dict_eq (F.args_dict_eq_2 _ _) (dict_no_str l es ep b u) ⟨ho, hq⟩)
    (fun _ hq => call_meets F.slot_str_eq_refl (typeIs_str s b u) F.entry_str_eq (F.args_str_eq_2 _ _) (str_no_dict l es ep b u) ⟨ho, hq⟩)
    (fun _ hq => wpAny_of_eq (rfl : isSame (.ref l) (.str b u) = pure false) hq) (.inr hu) h
theorem rc_str_dict {l : Addr} (b : Str) (u : Tok) (hl : DictAt s.heap l) (hu : A.units < cLine) : RcAt A s (.str b u) (.ref l) false := fun prog w E Q h => by
  obtain ⟨es, ep, ho⟩ := hl
  exact rc_eq_decline_or (k := false) (typeIs_str s b u) ⟨_, ho, rfl⟩ (by decide) F.sub_dict_str F.slot_str_eq F.slot_dict_eq_refl
    (fun _ hq => call_meets F.slot_str_eq (typeIs_str s b u) F.entry_str_eq (F.args_str_eq_2 _ _) (str_no_dict l es ep b u) ⟨ho, hq⟩)
    (fun _ hq => call_meets F.slot_dict_eq_refl ⟨_, ho, rfl⟩ F.entry_dict_eq (F.args_dict_eq_2 _ _) (dict_no_str l es ep b u) ⟨ho, hq⟩)
    (fun _ hq => wpAny_of_eq (rfl : isSame (.str b u) (.ref l) = pure false) hq) (.inr hu) h
theorem eq_dict_str {l : Addr} (b : Str) (u : Tok) (hl : DictAt s.heap l) (hu : A.units < cLine) : EqAt A s (.ref l) (.str b u) false := fun prog w E Q h => by
  unfold eqBool
  refine wpAny_holding ?_
  refine wpAny_ite_split (fun hab => absurd (eq_of_beq hab) nofun) (fun _ => ?_)
  exact wpAny_bind (rc_dict_str b u hl hu prog w E _ (wpAny_truthy_bool h))
theorem eq_str_dict {l : Addr} (b : Str) (u : Tok) (hl : DictAt s.heap l) (hu : A.units < cLine) : EqAt A s (.str b u) (.ref l) false := fun prog w E Q h => by
  unfold eqBool
  refine wpAny_holding ?_
  refine wpAny_ite_split (fun hab => absurd (eq_of_beq hab) nofun) (fun _ => ?_)
  exact wpAny_bind (rc_str_dict b u hl hu prog w E _ (wpAny_truthy_bool h))
theorem rc_dict_list {l b : Addr} {items : Array Value} (hl : DictAt s.heap l) (hb : s.heap.IsList b items) (hu : A.units < cLine) : RcAt A s (.ref l) (.ref b) false := fun prog w E Q h => by
  obtain ⟨es, ep, ho⟩ := hl
  obtain ⟨⟨cls2, dd2, data2, sl2⟩, ho2, hc2, n2, hd2⟩ := id hb
  simp only at hc2 hd2
  subst hc2 hd2
  have hne : l ≠ b := fun e => by subst e; rw [ho] at ho2; exact absurd (congrArg Obj.cls (Option.some.inj ho2)) (by simp)
  exact rc_eq_decline_or (k := false) ⟨_, ho, rfl⟩ ⟨_, ho2, rfl⟩ (by decide) F.sub_list_dict F.slot_dict_eq F.slot_list_eq_refl
    (fun _ hq => call_meets F.slot_dict_eq ⟨_, ho, rfl⟩ F.entry_dict_eq (F.args_dict_eq_2 _ _) (dict_no_list l b es ep items n2 dd2 sl2) ⟨ho, ho2, hq⟩)
    (fun _ hq => call_meets F.slot_list_eq_refl ⟨_, ho2, rfl⟩ F.entry_list_eq (F.args_list_eq_2 _ _) (list_no_dict l b es ep items n2 dd2 sl2) ⟨ho, ho2, hq⟩)
    (fun _ hq => wpAny_isSame_ref_other hne ho ho2 (by simp) hq) (.inr hu) h
theorem rc_list_dict {l b : Addr} {items : Array Value} (hl : DictAt s.heap l) (hb : s.heap.IsList b items) (hu : A.units < cLine) : RcAt A s (.ref b) (.ref l) false := fun prog w E Q h => by
  obtain ⟨es, ep, ho⟩ := hl
  obtain ⟨⟨cls2, dd2, data2, sl2⟩, ho2, hc2, n2, hd2⟩ := id hb
  simp only at hc2 hd2
  subst hc2 hd2
  have hne : b ≠ l := fun e => by subst e; rw [ho] at ho2; exact absurd (congrArg Obj.cls (Option.some.inj ho2)) (by simp)
  exact rc_eq_decline_or (k := false) ⟨_, ho2, rfl⟩ ⟨_, ho, rfl⟩ (by decide) F.sub_dict_list F.slot_list_eq F.slot_dict_eq_refl
    (fun _ hq => call_meets F.slot_list_eq ⟨_, ho2, rfl⟩ F.entry_list_eq (F.args_list_eq_2 _ _) (list_no_dict l b es ep items n2 dd2 sl2) ⟨ho, ho2, hq⟩)
    (fun _ hq => call_meets F.slot_dict_eq_refl ⟨_, ho, rfl⟩ F.entry_dict_eq (F.args_dict_eq_2 _ _) (dict_no_list l b es ep items n2 dd2 sl2) ⟨ho, ho2, hq⟩)
    (fun _ hq => wpAny_isSame_ref_other' hne ho2 ho (by simp) hq) (.inr hu) h
theorem rc_dict_tuple {l b : Addr} {items : Array Value} (hl : DictAt s.heap l) (hb : s.heap.IsTuple b items) (hu : A.units < cLine) : RcAt A s (.ref l) (.ref b) false := fun prog w E Q h => by
  obtain ⟨es, ep, ho⟩ := hl
  obtain ⟨⟨cls2, dd2, data2, sl2⟩, ho2, hc2, n2, hd2⟩ := id hb
  simp only at hc2 hd2
  subst hc2 hd2
  have hne : l ≠ b := fun e => by subst e; rw [ho] at ho2; exact absurd (congrArg Obj.cls (Option.some.inj ho2)) (by simp)
  exact rc_eq_decline_or (k := false) ⟨_, ho, rfl⟩ ⟨_, ho2, rfl⟩ (by decide) F.sub_tuple_dict F.slot_dict_eq F.slot_tuple_eq_refl
    (fun _ hq => call_meets F.slot_dict_eq ⟨_, ho, rfl⟩ F.entry_dict_eq (F.args_dict_eq_2 _ _) (dict_no_tuple l b es ep items n2 dd2 sl2) ⟨ho, ho2, hq⟩)
    (fun _ hq => call_meets F.slot_tuple_eq_refl ⟨_, ho2, rfl⟩ F.entry_tuple_eq (F.args_tuple_eq_2 _ _) (tuple_no_dict l b es ep items n2 dd2 sl2) ⟨ho, ho2, hq⟩)
    (fun _ hq => wpAny_isSame_ref_other hne ho ho2 (by simp) hq) (.inr hu) h
theorem rc_tuple_dict {l b : Addr} {items : Array Value} (hl : DictAt s.heap l) (hb : s.heap.IsTuple b items) (hu : A.units < cLine) : RcAt A s (.ref b) (.ref l) false := fun prog w E Q h => by
  obtain ⟨es, ep, ho⟩ := hl
  obtain ⟨⟨cls2, dd2, data2, sl2⟩, ho2, hc2, n2, hd2⟩ := id hb
  simp only at hc2 hd2
  subst hc2 hd2
  have hne : b ≠ l := fun e => by subst e; rw [ho] at ho2; exact absurd (congrArg Obj.cls (Option.some.inj ho2)) (by simp)
  exact rc_eq_decline_or (k := false) ⟨_, ho2, rfl⟩ ⟨_, ho, rfl⟩ (by decide) F.sub_dict_tuple F.slot_tuple_eq F.slot_dict_eq_refl
    (fun _ hq => call_meets F.slot_tuple_eq ⟨_, ho2, rfl⟩ F.entry_tuple_eq (F.args_tuple_eq_2 _ _) (tuple_no_dict l b es ep items n2 dd2 sl2) ⟨ho, ho2, hq⟩)
    (fun _ hq => call_meets F.slot_dict_eq_refl ⟨_, ho, rfl⟩ F.entry_dict_eq (F.args_dict_eq_2 _ _) (dict_no_tuple l b es ep items n2 dd2 sl2) ⟨ho, ho2, hq⟩)
    (fun _ hq => wpAny_isSame_ref_other' hne ho2 ho (by simp) hq) (.inr hu) h
end
end Mi
namespace Mi
open PySem L2 PySem.SeqAt PySem.W PyProof.Rows PySem.Spec PySem.Calls
open AutoSeq1 (wpAny_loadPart')
open MeetsSeq MeetsSeq2 MeetsSeq3 SeqRoads2
/-! == and in, within one model (dicts are hashed by the world) -/
def RcP (P : Program) (W : World) (A : Around) (s : Shared) (y x : Value) (b : Bool) : Prop := ∀ (E Q : Value → Shared → Prop), Q (.bool b) s → wpAny (model P W) A (richCompare .Eq y x) Q E s
section
variable {P : Program} {W : World} {A : Around} {s : Shared}
theorem rcP {y x : Value} {b : Bool} (h : RcAt A s y x b) : RcP P W A s y x b := fun E Q q => h P W E Q q
theorem both {y x : Value} {b : Bool} (h : EqAt A s y x b ∧ RcAt A s y x b) : EqP P W A s y x b ∧ RcP P W A s y x b := ⟨h.1.eqP, rcP h.2⟩
abbrev sqO (T : String) (u : Array Value) (n : Nat) (dd : Option Addr) (sl : Array (Option Value)) : Obj := ⟨.type T, dd, .seq u n, sl⟩
theorem tupEq (l b : Addr) (u v : Array Value) (n m : Nat) (d1 d2 : Option Addr) (s1 s2 : Array (Option Value)) (f : Nat → Bool) :
    MeetsIn P W (Builtin.«tuple.__eq__» ⟨[.ref l, .ref b], []⟩) (fun A R s => s.heap.get? l = some (sqO "tuple" u n d1 s1) ∧ s.heap.get? b = some (sqO "tuple" v m d2 s2) ∧
      (∀ j (h1 : j < u.size) (h2 : j < v.size), EqP P W A.in1 s u[j] v[j] (f j)) ∧ R (.ok (.ret (.bool ((List.range (min u.size v.size)).all f && u.size == v.size)))) s) := by
  intro A R s h
  obtain ⟨hp, gl, dd, tk, os⟩ := s
  obtain ⟨hl, hb, he, h⟩ := h
  have sub := AutoSeq1.sub_tuple_tuple
  have hZ : (u.toList.zip v.toList).length = min u.size v.size := by simp
  wp_walk using wpAny_loadPart' hl, wpAny_loadPart' hb, wpAny_forIn_list _ (fun more c t => c.1 = none ∧ t = ⟨hp, gl, dd, tk, os⟩ ∧ ∃ i, more = (u.toList.zip v.toList).drop i ∧
    R (.ok (.ret (.bool (((List.range (min u.size v.size)).drop i).all f && u.size == v.size)))) ⟨hp, gl, dd, tk, os⟩) _
  case turn =>
    rintro ⟨y, x⟩ more c t ⟨hc, rfl, i, hz, hR⟩
    have lt : i < (u.toList.zip v.toList).length := by
      rcases Nat.lt_or_ge i (u.toList.zip v.toList).length with z | z
      · exact z
      · rw [List.drop_of_length_le z] at hz; cases hz
    have lm : i < min u.size v.size := hZ ▸ lt
    have k1 : i < u.size := by omega
    have k2 : i < v.size := by omega
    rw [List.drop_eq_getElem_cons lt] at hz
    injection hz with hyx hmore
    have ey : y = u[i] := by simpa using congrArg Prod.fst hyx
    have ex : x = v[i] := by simpa using congrArg Prod.snd hyx
    subst ey ex
    have hd : (List.range (min u.size v.size)).drop i = i :: (List.range (min u.size v.size)).drop (i + 1) := by simp [List.drop_eq_getElem_cons, lm]
    rw [hd, List.all_cons] at hR
    refine wpAny_bind (he i k1 k2 _ _ ?_)
    cases q : f i with
    | true =>
      rw [q] at hR
      wp_walk
      exact ⟨rfl, rfl, i + 1, hmore, by simpa using hR⟩
    | false =>
      rw [q] at hR
      wp_walk
      simpa using hR
  case fin =>
    rintro ⟨b1, b2⟩ t ⟨hc, rfl, i, hz, hR⟩
    simp only at hc
    subst hc
    have ge : min u.size v.size ≤ i := by
      rcases Nat.lt_or_ge i (u.toList.zip v.toList).length with z | z
      · rw [List.drop_eq_getElem_cons z] at hz; cases hz
      · exact hZ ▸ z
    rw [List.drop_of_length_le (by simpa using ge)] at hR
    wp_walk
    simpa [Builtin.Tuple.tupleCompareSizes] using hR
  case h =>
    exact ⟨rfl, rfl, 0, rfl, by simpa using h⟩
theorem rcP_tuples {l b : Addr} {u v : Array Value} {f : Nat → Bool} (hl : s.heap.IsTuple l u) (hb : s.heap.IsTuple b v) (hu : A.units < cLine) (he : ∀ j (h1 : j < u.size) (h2 : j < v.size), EqP P W A.in1 s u[j] v[j] (f j)) :
    RcP P W A s (.ref l) (.ref b) ((List.range (min u.size v.size)).all f && u.size == v.size) := fun E Q h => by
  obtain ⟨⟨c1, d1, dt1, s1⟩, o1, hc1, n, hd1⟩ := id hl
  obtain ⟨⟨c2, d2, dt2, s2⟩, o2, hc2, m, hd2⟩ := id hb
  simp only at hc1 hd1 hc2 hd2
  subst hc1 hd1 hc2 hd2
  have ta : s.TypeIs (.ref l) "tuple" := ⟨_, o1, rfl⟩
  have tb : s.TypeIs (.ref b) "tuple" := ⟨_, o2, rfl⟩
  refine wpAny_richCompare_same_room (op := .Eq) ta tb F.slot_tuple_eq (call_meetsIn F.slot_tuple_eq ta F.entry_tuple_eq (F.args_tuple_eq_2 _ _) (tupEq l b u v n m d1 d2 s1 s2 f) ⟨o1, o2, he, ?_⟩) hu
  show Value.bool _ ≠ Value.notImplemented ∧ Q _ s
  exact ⟨(fun x => nomatch x), h⟩
/-! in -/
theorem conLoop (l : Addr) (u : Array Value) (n : Nat) (dd : Option Addr) (sl : Array (Option Value)) (x : Value) (f : Value → Bool) (k : Nat) :
    ∀ i : Nat, u.size - i = k → MeetsIn P W (Builtin.«list.__contains__.loop» ⟨[.ref l, x, rawInt i], []⟩) (fun A R s => s.heap.get? l = some (sqO "list" u n dd sl) ∧ (∀ y, y ∈ u → EqP P W A.in1 s y x (f y)) ∧ R (.ok (.ret (.bool ((u.toList.drop i).any f)))) s) := by
  induction k with
  | zero =>
    intro i hk A R s h
    obtain ⟨hp, gl, d, tk, os⟩ := s
    obtain ⟨hl, he, h⟩ := h
    wp_walk using wpAny_loadPart' hl
    have no : u[((i : Nat) : Int).toNat]? = none := by simp; omega
    have em : u.toList.drop i = [] := by simp; omega
    rw [em] at h
    rw [no]
    wp_walk
    exact h
  | succ k ih =>
    intro i hk A R s h
    obtain ⟨hp, gl, d, tk, os⟩ := s
    obtain ⟨hl, he, h⟩ := h
    wp_walk using wpAny_loadPart' hl
    have lt : i < u.size := by omega
    have so : u[((i : Nat) : Int).toNat]? = some u[i] := by simp [lt]
    have em : u.toList.drop i = u[i] :: u.toList.drop (i + 1) := by simp [List.drop_eq_getElem_cons, lt]
    rw [em, List.any_cons] at h
    rw [so]
    refine wpAny_bind (he _ (Array.getElem_mem lt) _ _ ?_)
    cases q : f u[i] with
    | true =>
      rw [q] at h
      wp_walk
      exact h
    | false =>
      rw [q] at h
      have up : ((i : Int) + 1) = ((i + 1 : Nat) : Int) := by omega
      wp_walk
      rw [up]
      refine ⟨plainId_quiet plain_contains_loop _, codeAny_builtin entry_contains_loop ?_⟩
      rw [Around.under_plainId plain_contains_loop _]
      exact ih (i + 1) (by omega) A R _ ⟨hl, he, by simpa using h⟩
theorem conList (l : Addr) (u : Array Value) (n : Nat) (dd : Option Addr) (sl : Array (Option Value)) (x : Value) (f : Value → Bool) :
    MeetsIn P W (Builtin.«list.__contains__» ⟨[.ref l, x], []⟩) (fun A R s => s.heap.get? l = some (sqO "list" u n dd sl) ∧ (∀ y, y ∈ u → EqP P W A.in1 s y x (f y)) ∧ R (.ok (.ret (.bool (u.any f)))) s) := by
  intro A R s h
  obtain ⟨hp, gl, d, tk, os⟩ := s
  obtain ⟨hl, he, h⟩ := h
  wp_walk using wpAny_loadPart' hl
  refine ⟨plainId_quiet plain_contains_loop _, codeAny_builtin entry_contains_loop ?_⟩
  rw [Around.under_plainId plain_contains_loop _]
  exact conLoop l u n dd sl x f _ 0 rfl A R _ ⟨hl, he, by simpa using h⟩
theorem conTup (l : Addr) (u : Array Value) (n : Nat) (dd : Option Addr) (sl : Array (Option Value)) (x : Value) (f : Value → Bool) :
    MeetsIn P W (Builtin.«tuple.__contains__» ⟨[.ref l, x], []⟩) (fun A R s => s.heap.get? l = some (sqO "tuple" u n dd sl) ∧ (∀ y, y ∈ u → EqP P W A.in1 s y x (f y)) ∧ R (.ok (.ret (.bool (u.any f)))) s) := by
  intro A R s h
  obtain ⟨hp, gl, d, tk, os⟩ := s
  obtain ⟨hl, he, h⟩ := h
  wp_walk using wpAny_loadPart' hl, wpAny_forIn_array _ (fun more c t => c.1 = none ∧ t = ⟨hp, gl, d, tk, os⟩ ∧ (∀ y, y ∈ more → y ∈ u) ∧ R (.ok (.ret (.bool (more.any f)))) ⟨hp, gl, d, tk, os⟩) _
  case turn =>
    rintro y more c t ⟨hc, rfl, hm, hR⟩
    refine wpAny_bind (he y (hm y (List.mem_cons_self ..)) _ _ ?_)
    rw [List.any_cons] at hR
    cases q : f y with
    | true =>
      rw [q] at hR
      wp_walk
      simpa using hR
    | false =>
      rw [q] at hR
      wp_walk
      exact ⟨rfl, rfl, fun z hz => hm z (List.mem_cons_of_mem _ hz), by simpa using hR⟩
  case fin =>
    rintro ⟨b1, b2⟩ t ⟨hc, rfl, -, hR⟩
    simp only at hc
    subst hc
    wp_walk
    simpa using hR
  case h =>
    exact ⟨rfl, rfl, fun y hy => by simpa using hy, by simpa using h⟩
theorem in_of {E : Value → Shared → Prop} {T id : String} {B : Builtin} {c x : Value} {S : PySem.Spec} {Q : Value → Shared → Prop} {k : Bool} (neg : Bool) (hT : s.TypeIs c T) (slot : Slot T "__contains__" id) (en : entryFor table id = some B) (as : argsOk id ⟨[c, x], []⟩) (g : MeetsIn P W (B ⟨[c, x], []⟩) S)
    (h : S A (wants (fun v s' => v = .bool k ∧ s' = s) E) s) (q : Q (.bool (if neg then !k else k)) s) : wpAny (model P W) A (compareOp (if neg then .NotIn else .In) x c) Q E s := by
  have go : ∀ R : Bool → Shared → Prop, R k s → wpAny (model P W) A (contains c x) R E s := fun R r => by
    refine wpAny_contains_slot hT slot (wpAny_mono (call_meetsIn slot hT en as g h) (fun v s' hv => ?_) fun _ _ e => e)
    obtain ⟨rfl, rfl⟩ := hv
    exact wpAny_truthy_bool r
  cases neg with
  | false => exact wpAny_bind (go _ (wpAny_pure q))
  | true => exact wpAny_bind (go _ (wpAny_pure q))
theorem inP_list {E : Value → Shared → Prop} {l : Addr} {u : Array Value} {x : Value} {Q : Value → Shared → Prop} (neg : Bool) (f : Value → Bool) (hl : s.heap.IsList l u) (he : ∀ y, y ∈ u → EqP P W A.in1 s y x (f y)) (q : Q (.bool (if neg then !(u.any f) else u.any f)) s) :
    wpAny (model P W) A (compareOp (if neg then .NotIn else .In) x (.ref l)) Q E s := by
  obtain ⟨⟨c1, d1, dt1, s1⟩, o1, hc1, n, hd1⟩ := id hl
  simp only at hc1 hd1
  subst hc1 hd1
  exact in_of neg ⟨_, o1, rfl⟩ F.slot_list_contains F.entry_list_contains (F.args_list_contains_2 _ _) (conList l u n d1 s1 x f) ⟨o1, he, rfl, rfl⟩ q
theorem inP_tuple {E : Value → Shared → Prop} {l : Addr} {u : Array Value} {x : Value} {Q : Value → Shared → Prop} (neg : Bool) (f : Value → Bool) (hl : s.heap.IsTuple l u) (he : ∀ y, y ∈ u → EqP P W A.in1 s y x (f y)) (q : Q (.bool (if neg then !(u.any f) else u.any f)) s) :
    wpAny (model P W) A (compareOp (if neg then .NotIn else .In) x (.ref l)) Q E s := by
  obtain ⟨⟨c1, d1, dt1, s1⟩, o1, hc1, n, hd1⟩ := id hl
  simp only at hc1 hd1
  subst hc1 hd1
  exact in_of neg ⟨_, o1, rfl⟩ F.slot_tuple_contains F.entry_tuple_contains (F.args_tuple_contains_2 _ _) (conTup l u n d1 s1 x f) ⟨o1, he, rfl, rfl⟩ q
end
end Mi
namespace Mi
open PySem L2 PySem.SeqAt PySem.W PyProof.Rows PySem.Spec PySem.Calls
open AutoSeq1 (wpAny_loadPart')
open MeetsSeq MeetsSeq2 MeetsSeq3 SeqRoads2
/-! != of tuples and lists, within one model -/
def RnP (P : Program) (W : World) (A : Around) (s : Shared) (y x : Value) (b : Bool) : Prop := ∀ (E Q : Value → Shared → Prop), Q (.bool b) s → wpAny (model P W) A (richCompare .NotEq y x) Q E s
section
variable {P : Program} {W : World} {A : Around} {s : Shared}
theorem rnP {y x : Value} {b : Bool} (h : RcNeAt A s y x b) : RnP P W A s y x b := fun E Q q => h P W E Q q
theorem tupNe (l b : Addr) (u v : Array Value) (n m : Nat) (d1 d2 : Option Addr) (s1 s2 : Array (Option Value)) (f : Nat → Bool) :
    MeetsIn P W (Builtin.«tuple.__ne__» ⟨[.ref l, .ref b], []⟩) (fun A R s => s.heap.get? l = some (sqO "tuple" u n d1 s1) ∧ s.heap.get? b = some (sqO "tuple" v m d2 s2) ∧
      (∀ j (h1 : j < u.size) (h2 : j < v.size), EqP P W A.in1 s u[j] v[j] (f j)) ∧ R (.ok (.ret (.bool (!((List.range (min u.size v.size)).all f && u.size == v.size))))) s) := by
  intro A R s h
  obtain ⟨hp, gl, dd, tk, os⟩ := s
  obtain ⟨hl, hb, he, h⟩ := h
  have sub := AutoSeq1.sub_tuple_tuple
  have hZ : (u.toList.zip v.toList).length = min u.size v.size := by simp
  wp_walk using wpAny_loadPart' hl, wpAny_loadPart' hb, wpAny_forIn_list _ (fun more c t => c.1 = none ∧ t = ⟨hp, gl, dd, tk, os⟩ ∧ ∃ i, more = (u.toList.zip v.toList).drop i ∧
    R (.ok (.ret (.bool (!(((List.range (min u.size v.size)).drop i).all f && u.size == v.size))))) ⟨hp, gl, dd, tk, os⟩) _
  case turn =>
    rintro ⟨y, x⟩ more c t ⟨hc, rfl, i, hz, hR⟩
    have lt : i < (u.toList.zip v.toList).length := by
      rcases Nat.lt_or_ge i (u.toList.zip v.toList).length with z | z
      · exact z
      · rw [List.drop_of_length_le z] at hz; cases hz
    have lm : i < min u.size v.size := hZ ▸ lt
    have k1 : i < u.size := by omega
    have k2 : i < v.size := by omega
    rw [List.drop_eq_getElem_cons lt] at hz
    injection hz with hyx hmore
    have ey : y = u[i] := by simpa using congrArg Prod.fst hyx
    have ex : x = v[i] := by simpa using congrArg Prod.snd hyx
    subst ey ex
    have hd : (List.range (min u.size v.size)).drop i = i :: (List.range (min u.size v.size)).drop (i + 1) := by simp [List.drop_eq_getElem_cons, lm]
    rw [hd, List.all_cons] at hR
    refine wpAny_bind (he i k1 k2 _ _ ?_)
    cases q : f i with
    | true =>
      rw [q] at hR
      wp_walk
      exact ⟨rfl, rfl, i + 1, hmore, by simpa using hR⟩
    | false =>
      rw [q] at hR
      wp_walk
      simpa using hR
  case fin =>
    rintro ⟨b1, b2⟩ t ⟨hc, rfl, i, hz, hR⟩
    simp only at hc
    subst hc
    have ge : min u.size v.size ≤ i := by
      rcases Nat.lt_or_ge i (u.toList.zip v.toList).length with z | z
      · rw [List.drop_eq_getElem_cons z] at hz; cases hz
      · exact hZ ▸ z
    rw [List.drop_of_length_le (by simpa using ge)] at hR
    wp_walk
    simpa [Builtin.Tuple.tupleCompareSizes, bne] using hR
  case h =>
    exact ⟨rfl, rfl, 0, rfl, by simpa using h⟩
theorem rnP_tuples {l b : Addr} {u v : Array Value} {f : Nat → Bool} (hl : s.heap.IsTuple l u) (hb : s.heap.IsTuple b v) (hu : A.units < cLine) (he : ∀ j (h1 : j < u.size) (h2 : j < v.size), EqP P W A.in1 s u[j] v[j] (f j)) :
    RnP P W A s (.ref l) (.ref b) (!((List.range (min u.size v.size)).all f && u.size == v.size)) := fun E Q h => by
  obtain ⟨⟨c1, d1, dt1, s1⟩, o1, hc1, n, hd1⟩ := id hl
  obtain ⟨⟨c2, d2, dt2, s2⟩, o2, hc2, m, hd2⟩ := id hb
  simp only at hc1 hd1 hc2 hd2
  subst hc1 hd1 hc2 hd2
  have ta : s.TypeIs (.ref l) "tuple" := ⟨_, o1, rfl⟩
  have tb : s.TypeIs (.ref b) "tuple" := ⟨_, o2, rfl⟩
  refine wpAny_richCompare_same_room (op := .NotEq) ta tb F.slot_tuple_ne (call_meetsIn F.slot_tuple_ne ta F.entry_tuple_ne (F.args_tuple_ne_2 _ _) (tupNe l b u v n m d1 d2 s1 s2 f) ⟨o1, o2, he, ?_⟩) hu
  show Value.bool _ ≠ Value.notImplemented ∧ Q _ s
  exact ⟨(fun x => nomatch x), h⟩
theorem neLoop (l b : Addr) (u v : Array Value) (n m : Nat) (d1 d2 : Option Addr) (s1 s2 : Array (Option Value)) (hsz : u.size = v.size) (f : Nat → Bool) (k : Nat) :
    ∀ i : Nat, u.size - i = k → MeetsIn P W (Builtin.«list.__eq__.loop» ⟨[.ref l, .ref b, rawInt i, rawInt 3], []⟩) (fun A R s => s.heap.get? l = some (sqO "list" u n d1 s1) ∧ s.heap.get? b = some (sqO "list" v m d2 s2) ∧
      (∀ j (h1 : j < u.size) (h2 : j < v.size), EqP P W A.in1 s u[j] v[j] (f j)) ∧ R (.ok (.ret (.bool (!((List.range u.size).drop i).all f)))) s) := by
  induction k with
  | zero =>
    intro i hk A R s h
    obtain ⟨hp, g, d, tk, os⟩ := s; obtain ⟨hl, hb, he, h⟩ := h
    wp_walk using wpAny_loadPart' hl, wpAny_loadPart' hb
    have hi1 : u[((i : Nat) : Int).toNat]? = none := by simp; omega
    have hi2 : v[((i : Nat) : Int).toNat]? = none := by simp; omega
    have hd : (List.range u.size).drop i = [] := by simp; omega
    rw [hd] at h
    rw [hi1, hi2]
    wp_walk using wpAny_loadPart' hl, wpAny_loadPart' hb
    show R (.ok (.ret (.bool (u.size != v.size)))) _
    rw [hsz]
    simpa using h
  | succ k ih =>
    intro i hk A R s h
    obtain ⟨hp, g, d, tk, os⟩ := s; obtain ⟨hl, hb, he, h⟩ := h
    wp_walk using wpAny_loadPart' hl, wpAny_loadPart' hb
    have hlt : i < u.size := by omega
    have hlt2 : i < v.size := by omega
    have hi1 : u[((i : Nat) : Int).toNat]? = some u[i] := by simp [hlt]
    have hi2 : v[((i : Nat) : Int).toNat]? = some v[i] := by simp [hlt2]
    have hd : (List.range u.size).drop i = i :: (List.range u.size).drop (i + 1) := by simp [List.drop_eq_getElem_cons, hlt]
    have hc : ((i : Int) + 1) = ((i + 1 : Nat) : Int) := by omega
    rw [hd, List.all_cons] at h
    rw [hi1, hi2]
    refine wpAny_bind (he i hlt hlt2 _ _ ?_)
    cases hb' : f i with
    | true =>
      rw [hb'] at h
      wp_walk
      rw [hc]
      exact ⟨plainId_quiet plain_eq_loop _, codeAny_builtin entry_eq_loop (by
        rw [Around.under_plainId plain_eq_loop _]
        exact ih (i + 1) (by omega) A R _ ⟨hl, hb, he, by simpa using h⟩)⟩
    | false =>
      rw [hb'] at h
      wp_walk using wpAny_loadPart' hl, wpAny_loadPart' hb
      rw [hi1, hi2]
      wp_walk
      simpa using h
theorem lstNe (l b : Addr) (u v : Array Value) (n m : Nat) (d1 d2 : Option Addr) (s1 s2 : Array (Option Value)) (hsz : u.size = v.size) (f : Nat → Bool) :
    MeetsIn P W (Builtin.«list.__ne__» ⟨[.ref l, .ref b], []⟩) (fun A R s => s.heap.get? l = some (sqO "list" u n d1 s1) ∧ s.heap.get? b = some (sqO "list" v m d2 s2) ∧
      (∀ j (h1 : j < u.size) (h2 : j < v.size), EqP P W A.in1 s u[j] v[j] (f j)) ∧ R (.ok (.ret (.bool (!(List.range u.size).all f)))) s) := by
  intro A R s h
  obtain ⟨hp, g, d, tk, os⟩ := s; obtain ⟨hl, hb, he, h⟩ := h
  have f3 := AutoSeq1.sub_list_list
  have hne : ¬ (u.size != v.size) = true := by simp [hsz]
  wp_walk using wpAny_loadPart' hl, wpAny_loadPart' hb
  exact ⟨plainId_quiet plain_eq_loop _, codeAny_builtin entry_eq_loop (by
    rw [Around.under_plainId plain_eq_loop _]
    exact neLoop l b u v n m d1 d2 s1 s2 hsz f _ 0 rfl A R _ ⟨hl, hb, he, by simpa using h⟩)⟩
theorem rnP_lists {l b : Addr} {u v : Array Value} {f : Nat → Bool} (hl : s.heap.IsList l u) (hb : s.heap.IsList b v) (hsz : u.size = v.size) (hu : A.units < cLine) (he : ∀ j (h1 : j < u.size) (h2 : j < v.size), EqP P W A.in1 s u[j] v[j] (f j)) :
    RnP P W A s (.ref l) (.ref b) (!(List.range u.size).all f) := fun E Q h => by
  obtain ⟨⟨c1, d1, dt1, s1⟩, o1, hc1, n, hd1⟩ := id hl
  obtain ⟨⟨c2, d2, dt2, s2⟩, o2, hc2, m, hd2⟩ := id hb
  simp only at hc1 hd1 hc2 hd2
  subst hc1 hd1 hc2 hd2
  have ta : s.TypeIs (.ref l) "list" := ⟨_, o1, rfl⟩
  have tb : s.TypeIs (.ref b) "list" := ⟨_, o2, rfl⟩
  refine wpAny_richCompare_same_room (op := .NotEq) ta tb F.slot_list_ne (call_meetsIn F.slot_list_ne ta F.entry_list_ne (F.args_list_ne_2 _ _) (lstNe l b u v n m d1 d2 s1 s2 hsz f) ⟨o1, o2, he, ?_⟩) hu
  show Value.bool _ ≠ Value.notImplemented ∧ Q _ s
  exact ⟨(fun x => nomatch x), h⟩
end
end Mi
namespace Mi
open PySem L2 PySem.SeqAt

section
variable {X : Cx} {g : Gd} {ρ : List Addr} {H : Hp} {st : Store} {pins : List (Addr × Obj)} {σ : St} {s : Shared}

theorem range_all (e : Nat → Bool) (n : Nat) : (List.range (n + 1)).all e = (e 0 && (List.range n).all fun j => e (j + 1)) := by
  rw [List.range_succ_eq_map, List.all_cons, List.all_map]; rfl
theorem eqz_all {f : Val → Val → Option Bool} : ∀ (xs ys : List Val) (b : Bool), eqz f xs ys = some b →
    ∃ e : Nat → Bool, (∀ (j : Nat) x y, xs[j]? = some x → ys[j]? = some y → f x y = some (e j)) ∧ b = (List.range (min xs.length ys.length)).all e
  | [], ys, b, h => by
    refine ⟨fun _ => true, fun j x y h1 _ => by simp at h1, ?_⟩
    simp only [eqz, Option.some.injEq] at h
    simp [← h]
  | x :: xs, [], b, h => by
    refine ⟨fun _ => true, fun j x y _ h1 => by simp at h1, ?_⟩
    simp only [eqz, Option.some.injEq] at h
    simp [← h]
  | x :: xs, y :: ys, b, h => by
    simp only [eqz] at h
    cases q : f x y with
    | none => rw [q] at h; cases h
    | some c =>
      rw [q] at h
      cases q2 : eqz f xs ys with
      | none => rw [q2] at h; cases h
      | some d =>
        rw [q2] at h
        simp only [Option.map_some, Option.bind_some, Option.some.injEq] at h
        obtain ⟨e, h1, h2⟩ := eqz_all xs ys d q2
        refine ⟨fun j => match j with | 0 => c | j + 1 => e j, fun j u v hu hv => ?_, ?_⟩
        · cases j with
          | zero => simp at hu hv; subst hu; subst hv; exact q
          | succ j => exact h1 j u v (by simpa using hu) (by simpa using hv)
        · rw [List.length_cons, List.length_cons, Nat.succ_min_succ, range_all, ← h, h2]
/-- items of one thing are equal -/
theorem eqz_same {f : Val → Val → Option Bool} (hf : ∀ x y V b, Rel g ρ H x V → Rel g ρ H y V → f x y = some b → b = true) : ∀ (xs ys : List Val) (vs : List V) (b : Bool), Rels g ρ H xs vs → Rels g ρ H ys vs → eqz f xs ys = some b → b = true
  | [], ys, vs, b, _, _, h => by simp only [eqz, Option.some.injEq] at h; exact h.symm
  | x :: xs, [], vs, b, _, _, h => by simp only [eqz, Option.some.injEq] at h; exact h.symm
  | x :: xs, y :: ys, vs, b, h1, h2, h => by
    obtain ⟨v, r, rfl, a1, a2⟩ := h1.cons_inv
    obtain ⟨v', r', e, b1, b2⟩ := h2.cons_inv
    cases e
    simp only [eqz] at h
    cases q : f x y with
    | none => rw [q] at h; cases h
    | some c =>
      rw [q] at h
      cases q2 : eqz f xs ys with
      | none => rw [q2] at h; cases h
      | some d =>
        rw [q2] at h
        simp only [Option.map_some, Option.bind_some, Option.some.injEq] at h
        rw [← h, hf x y v c a1 b1 q, eqz_same hf xs ys r d a2 b2 q2]; rfl
theorem flat_sd {x : Val} {v : V} (h : Rel g ρ H x v) (f : flat x = true) : (∃ b, x = .bl b ∧ v = .bl b) ∨ (∃ b, x = .int b ∧ v = .int b) ∨ (∃ b, x = .str b ∧ v = .str (tx b)) ∨ (x = .non ∧ v = .non) := by
  cases x <;> (try (simp only [flat, Bool.false_eq_true] at f; done)) <;> simp only [Rel] at h
  · exact .inr (.inr (.inr ⟨rfl, h⟩))
  · exact .inl ⟨_, rfl, h⟩
  · exact .inr (.inl ⟨_, rfl, h⟩)
  · exact .inr (.inr (.inl ⟨_, rfl, h.1⟩))
theorem beq_tx (a b : Txt) : (tx a == tx b) = (a == b) := by
  rw [Bool.eq_iff_iff, beq_iff_eq, beq_iff_eq]; exact tx_eq
/-- == of flat values -/
theorem eqF {x y : Val} {vx vy : V} {v u : Value} (hx : Rel g ρ H x vx) (hy : Rel g ρ H y vy) (rv : RelV vx v) (ru : RelV vy u) (fx : flat x = true) (fy : flat y = true) (A : Around) : EqAt A s v u (eqf x y) ∧ RcAt A s v u (eqf x y) := by
  rcases flat_sd hx fx with ⟨b, rfl, rfl⟩ | ⟨b, rfl, rfl⟩ | ⟨b, rfl, rfl⟩ | ⟨rfl, rfl⟩
  · cases rv
    rcases flat_sd hy fy with ⟨c, rfl, rfl⟩ | ⟨c, rfl, rfl⟩ | ⟨c, rfl, rfl⟩ | ⟨rfl, rfl⟩
    · cases ru; exact ⟨EqAt.bool_bool _ _, RcAt.bool_bool _ _⟩
    · obtain ⟨t', rfl⟩ := ru; exact ⟨EqAt.bool_int _ _ _, RcAt.bool_int _ _ _⟩
    · obtain ⟨t', rfl⟩ := ru; exact ⟨EqAt.bool_str _ _ _, RcAt.bool_str _ _ _⟩
    · cases ru; exact ⟨EqAt.bool_none _, RcAt.bool_none _⟩
  · obtain ⟨t, rfl⟩ := rv
    rcases flat_sd hy fy with ⟨c, rfl, rfl⟩ | ⟨c, rfl, rfl⟩ | ⟨c, rfl, rfl⟩ | ⟨rfl, rfl⟩
    · cases ru; exact ⟨EqAt.int_bool _ _ _, RcAt.int_bool _ _ _⟩
    · obtain ⟨t', rfl⟩ := ru; exact ⟨EqAt.int_int _ _ _ _, RcAt.int_int _ _ _ _⟩
    · obtain ⟨t', rfl⟩ := ru; exact ⟨EqAt.int_str _ _ _ _, RcAt.int_str _ _ _ _⟩
    · cases ru; exact ⟨EqAt.int_none _ _, RcAt.int_none _ _⟩
  · obtain ⟨t, rfl⟩ := rv
    rcases flat_sd hy fy with ⟨c, rfl, rfl⟩ | ⟨c, rfl, rfl⟩ | ⟨c, rfl, rfl⟩ | ⟨rfl, rfl⟩
    · cases ru; exact ⟨EqAt.str_bool _ _ _, RcAt.str_bool _ _ _⟩
    · obtain ⟨t', rfl⟩ := ru; exact ⟨EqAt.str_int _ _ _ _, RcAt.str_int _ _ _ _⟩
    · obtain ⟨t', rfl⟩ := ru; show EqAt A s _ _ (b == c) ∧ RcAt A s _ _ (b == c); rw [← beq_tx]; exact ⟨EqAt.str_str _ _ _ _, RcAt.str_str _ _ _ _⟩
    · cases ru; exact ⟨EqAt.str_none _ _, RcAt.str_none _ _⟩
  · cases rv
    rcases flat_sd hy fy with ⟨c, rfl, rfl⟩ | ⟨c, rfl, rfl⟩ | ⟨c, rfl, rfl⟩ | ⟨rfl, rfl⟩
    · cases ru; exact ⟨EqAt.none_bool _, RcAt.none_bool _⟩
    · obtain ⟨t', rfl⟩ := ru; exact ⟨EqAt.none_int _ _, RcAt.none_int _ _⟩
    · obtain ⟨t', rfl⟩ := ru; exact ⟨EqAt.none_str _ _, RcAt.none_str _ _⟩
    · cases ru; exact ⟨EqAt.same _, RcAt.none_none⟩
theorem eqf_same {x y : Val} {V : V} (hx : Rel g ρ H x V) (hy : Rel g ρ H y V) (fx : flat x = true) (fy : flat y = true) : eqf x y = true := by
  cases x <;> simp only [flat, Bool.false_eq_true] at fx <;> cases y <;> simp only [flat, Bool.false_eq_true] at fy <;> simp only [Rel] at hx hy
  all_goals first
    | (subst hx; cases hy; simp [eqf]; done)
    | (obtain ⟨rfl, _⟩ := hx; obtain ⟨e, _⟩ := hy; injection e with e; have := tx_inj e; subst this; simp [eqf])
    | (rw [hx] at hy; exact nomatch hy)
    | (rw [hx] at hy; exact nomatch hy.1)
    | (rw [hy] at hx; exact nomatch hx.1)
/-- a list and a flat value; a tuple and a flat value -/
theorem eqLF {a : Addr} {its : Array Value} {y : Val} {vy : V} {u : Value} (t : s.heap.IsList a its) (hy : Rel g ρ H y vy) (ru : RelV vy u) (fy : flat y = true) {A : Around} (hu : A.units < cLine) :
    (EqAt A s (.ref a) u false ∧ RcAt A s (.ref a) u false) ∧ (EqAt A s u (.ref a) false ∧ RcAt A s u (.ref a) false) := by
  rcases flat_sd hy fy with ⟨c, rfl, rfl⟩ | ⟨c, rfl, rfl⟩ | ⟨c, rfl, rfl⟩ | ⟨rfl, rfl⟩
  · cases ru; exact ⟨⟨EqAt.list_bool _ t hu, RcAt.list_bool _ t hu⟩, ⟨EqAt.bool_list _ t hu, RcAt.bool_list _ t hu⟩⟩
  · obtain ⟨t', rfl⟩ := ru; exact ⟨⟨EqAt.list_int _ _ t hu, RcAt.list_int _ _ t hu⟩, ⟨EqAt.int_list _ _ t hu, RcAt.int_list _ _ t hu⟩⟩
  · obtain ⟨t', rfl⟩ := ru; exact ⟨⟨EqAt.list_str _ _ t hu, RcAt.list_str _ _ t hu⟩, ⟨EqAt.str_list _ _ t hu, RcAt.str_list _ _ t hu⟩⟩
  · cases ru; exact ⟨⟨EqAt.list_none t hu, RcAt.list_none t hu⟩, ⟨EqAt.none_list t hu, RcAt.none_list t hu⟩⟩
theorem eqTF {a : Addr} {its : Array Value} {y : Val} {vy : V} {u : Value} (t : s.heap.IsTuple a its) (hy : Rel g ρ H y vy) (ru : RelV vy u) (fy : flat y = true) {A : Around} (hu : A.units < cLine) :
    (EqAt A s (.ref a) u false ∧ RcAt A s (.ref a) u false) ∧ (EqAt A s u (.ref a) false ∧ RcAt A s u (.ref a) false) := by
  rcases flat_sd hy fy with ⟨c, rfl, rfl⟩ | ⟨c, rfl, rfl⟩ | ⟨c, rfl, rfl⟩ | ⟨rfl, rfl⟩
  · cases ru; exact ⟨⟨EqAt.tuple_bool _ t hu, RcAt.tuple_bool _ t hu⟩, ⟨EqAt.bool_tuple _ t hu, RcAt.bool_tuple _ t hu⟩⟩
  · obtain ⟨t', rfl⟩ := ru; exact ⟨⟨EqAt.tuple_int _ _ t hu, RcAt.tuple_int _ _ t hu⟩, ⟨EqAt.int_tuple _ _ t hu, RcAt.int_tuple _ _ t hu⟩⟩
  · obtain ⟨t', rfl⟩ := ru; exact ⟨⟨EqAt.tuple_str _ _ t hu, RcAt.tuple_str _ _ t hu⟩, ⟨EqAt.str_tuple _ _ t hu, RcAt.str_tuple _ _ t hu⟩⟩
  · cases ru; exact ⟨⟨EqAt.tuple_none t hu, RcAt.tuple_none t hu⟩, ⟨EqAt.none_tuple t hu, RcAt.none_tuple t hu⟩⟩
/-- a value's place and what lies there -/
def VwR (g : Gd) (ρ : List Addr) (H : Hp) : Sv → V → Prop
  | .flt, v => ∀ a, v ≠ .ref a
  | .tup xs, v => ∃ a vs, v = .ref a ∧ (H a = some (.tup vs) ∨ KTup g.K a vs) ∧ Rels g ρ H xs vs
  | .lst xs, v => ∃ a vs, v = .ref a ∧ (Rd H a (.lst vs) ∨ KLst g.K a vs) ∧ Rels g ρ H xs vs
  | .dct ks xs, v => ∃ a kvs, v = .ref a ∧ Rd H a (.dK kvs) ∧ kvs.map (·.1) = ks.map tk ∧ Rels g ρ H xs (kvs.map (·.2))
theorem view_flt {x : Val} (h : view st x = some .flt) : flat x = true := by
  cases x <;> first | rfl | (simp only [view, reduceCtorEq, Option.some.injEq] at h; done) | skip
  rename_i n
  simp only [view] at h
  split at h <;> simp at h
theorem view_sd (w : Wd g ρ st H) {x : Val} {v : V} {S : Sv} (h : Rel g ρ H x v) (e : view st x = some S) : VwR g ρ H S v := by
  cases x with
  | tup xs => simp only [view, Option.some.injEq] at e; subst e; simp only [Rel] at h; obtain ⟨a, vs, e, k, _, r⟩ := h; exact ⟨a, vs, e, k, r⟩
  | lst xs => simp only [view, Option.some.injEq] at e; subst e; obtain ⟨a, vs, e, k, _, r⟩ := asL_sd w h (show asL st (.lst xs) = some xs from rfl); exact ⟨a, vs, e, k, r⟩
  | dct ks xs => simp only [view, Option.some.injEq] at e; subst e; obtain ⟨a, vs, e, k, _, k2, r⟩ := asD_sd w h (show asD st (.dct ks xs) = some (ks, xs) from rfl); exact ⟨a, vs, e, k, k2.1, r⟩
  | loc n =>
    simp only [view] at e
    split at e
    · rename_i xs q
      cases e
      obtain ⟨a, vs, e, k, _, r⟩ := asL_sd w h (show asL st (.loc n) = some xs by simp only [asL, q]); exact ⟨a, vs, e, k, r⟩
    · rename_i ks xs q
      cases e
      obtain ⟨a, vs, e, k, _, k2, r⟩ := asD_sd w h (show asD st (.loc n) = some (ks, xs) by simp only [asD, q]); exact ⟨a, vs, e, k, k2.1, r⟩
    · cases e
  | _ =>
    simp only [view, Option.some.injEq] at e; subst e; simp only [Rel] at h
    intro a z
    first | (rw [h] at z; cases z) | (rw [h.1] at z; cases z)
/-- two views of one thing -/
def Same (g : Gd) (ρ : List Addr) (H : Hp) : Sv → Sv → Prop
  | .flt, .flt => True
  | .tup xs, .tup ys => ∃ vs, Rels g ρ H xs vs ∧ Rels g ρ H ys vs
  | .lst xs, .lst ys => ∃ vs, Rels g ρ H xs vs ∧ Rels g ρ H ys vs
  | .dct ks xs, .dct ls ys => ks = ls ∧ ∃ a kvs, Rd H a (.dK kvs) ∧ kvs.map (·.1) = ks.map tk ∧ Rels g ρ H xs (kvs.map (·.2)) ∧ Rels g ρ H ys (kvs.map (·.2))
  | _, _ => False
theorem tks_inj : ∀ {ks ls : List Txt}, ks.map tk = ls.map tk → ks = ls
  | [], [], _ => rfl
  | [], _ :: _, h => by cases h
  | _ :: _, [], h => by cases h
  | k :: ks, l :: ls, h => by
    simp only [List.map_cons, List.cons.injEq] at h
    rw [tk_inj h.1, tks_inj h.2]
theorem vw_cong (ap : Apart g H) {S T : Sv} {v : V} (h1 : VwR g ρ H S v) (h2 : VwR g ρ H T v) : Same g ρ H S T := by
  cases S with
  | flt => cases T with
    | flt => trivial
    | tup ys => obtain ⟨a, _, e, _⟩ := h2; exact h1 a e
    | lst ys => obtain ⟨a, _, e, _⟩ := h2; exact h1 a e
    | dct ls ys => obtain ⟨a, _, e, _⟩ := h2; exact h1 a e
  | tup xs =>
    obtain ⟨a, vs, rfl, k1, r1⟩ := h1
    cases T with
    | flt => exact h2 a rfl
    | tup ys =>
      obtain ⟨a', us, e, k2, r2⟩ := h2
      cases e
      have e : vs = us := by
        rcases k1 with k1 | k1 <;> rcases k2 with k2 | k2
        · rw [k1] at k2; injection k2 with k2; injection k2
        · rw [ktup_none ap k2] at k1; cases k1
        · rw [ktup_none ap k1] at k2; cases k2
        · exact ktup_inj k1 k2
      subst e
      exact ⟨_, r1, r2⟩
    | lst ys =>
      obtain ⟨a', us, e, k2, r2⟩ := h2
      cases e
      rcases k1 with k1 | k1 <;> rcases k2 with (k2 | ⟨o, k2⟩) | k2
      · rw [k1] at k2; cases k2
      · rw [k1] at k2; cases k2
      · rw [klst_none ap k2] at k1; cases k1
      · rw [ktup_none ap k1] at k2; cases k2
      · rw [ktup_none ap k1] at k2; cases k2
      · exact ktup_klst k1 k2
    | dct ls ys =>
      obtain ⟨a', us, e, k2, r2⟩ := h2
      cases e
      rcases k1 with k1 | k1 <;> rcases k2 with k2 | ⟨o, k2⟩
      · rw [k1] at k2; cases k2
      · rw [k1] at k2; cases k2
      · rw [ktup_none ap k1] at k2; cases k2
      · rw [ktup_none ap k1] at k2; cases k2
  | lst xs =>
    obtain ⟨a, vs, rfl, k1, r1⟩ := h1
    cases T with
    | flt => exact h2 a rfl
    | tup ys =>
      obtain ⟨a', us, e, k2, r2⟩ := h2
      cases e
      rcases k2 with k2 | k2 <;> rcases k1 with (k1 | ⟨o, k1⟩) | k1
      · rw [k1] at k2; cases k2
      · rw [k1] at k2; cases k2
      · rw [klst_none ap k1] at k2; cases k2
      · rw [ktup_none ap k2] at k1; cases k1
      · rw [ktup_none ap k2] at k1; cases k1
      · exact ktup_klst k2 k1
    | lst ys =>
      obtain ⟨a', us, e, k2, r2⟩ := h2
      cases e
      have e : vs = us := by
        rcases k1 with (k1 | ⟨o, k1⟩) | k1 <;> rcases k2 with (k2 | ⟨o', k2⟩) | k2
        · rw [k1] at k2; injection k2 with k2; injection k2
        · rw [k1] at k2; cases k2
        · rw [klst_none ap k2] at k1; cases k1
        · rw [k1] at k2; cases k2
        · rw [k1] at k2; injection k2 with k2; injection k2 with _ k2; injection k2
        · rw [klst_none ap k2] at k1; cases k1
        · rw [klst_none ap k1] at k2; cases k2
        · rw [klst_none ap k1] at k2; cases k2
        · exact klst_inj k1 k2
      subst e
      exact ⟨_, r1, r2⟩
    | dct ls ys =>
      obtain ⟨a', us, e, k2, r2⟩ := h2
      cases e
      rcases k1 with (k1 | ⟨o, k1⟩) | k1 <;> rcases k2 with k2 | ⟨o', k2⟩
      · rw [k1] at k2; cases k2
      · rw [k1] at k2; cases k2
      · rw [k1] at k2; cases k2
      · rw [k1] at k2; cases k2
      · rw [klst_none ap k1] at k2; cases k2
      · rw [klst_none ap k1] at k2; cases k2
  | dct ks xs =>
    obtain ⟨a, kvs, rfl, k1, e1, r1⟩ := h1
    cases T with
    | flt => exact h2 a rfl
    | tup ys =>
      obtain ⟨a', us, e, k2, r2⟩ := h2
      cases e
      rcases k2 with k2 | k2 <;> rcases k1 with k1 | ⟨o, k1⟩
      · rw [k1] at k2; cases k2
      · rw [k1] at k2; cases k2
      · rw [ktup_none ap k2] at k1; cases k1
      · rw [ktup_none ap k2] at k1; cases k1
    | lst ys =>
      obtain ⟨a', us, e, k2, r2⟩ := h2
      cases e
      rcases k2 with (k2 | ⟨o, k2⟩) | k2 <;> rcases k1 with k1 | ⟨o', k1⟩
      · rw [k1] at k2; cases k2
      · rw [k1] at k2; cases k2
      · rw [k1] at k2; cases k2
      · rw [k1] at k2; cases k2
      · rw [klst_none ap k2] at k1; cases k1
      · rw [klst_none ap k2] at k1; cases k1
    | dct ls ys =>
      obtain ⟨a', kvs', e, k2, e2, r2⟩ := h2
      cases e
      have e : kvs = kvs' := by
        rcases k1 with k1 | ⟨o, k1⟩ <;> rcases k2 with k2 | ⟨o', k2⟩
        · rw [k1] at k2; injection k2 with k2; injection k2
        · rw [k1] at k2; cases k2
        · rw [k1] at k2; cases k2
        · rw [k1] at k2; injection k2 with k2; injection k2 with _ k2; injection k2
      subst e
      exact ⟨tks_inj (e1.symm.trans e2), a, kvs, k1, e1, r1, r2⟩
/-- a dict's keys differ -/
def NdK (H : Hp) : Prop := ∀ a kvs, Rd H a (.dK kvs) → (kvs.map (·.1)).Nodup
theorem ndk (I : Inv X pins σ H s) : NdK H := fun a kvs r => by
  obtain ⟨_, _, vs, k, d⟩ := r.ok I.hok
  obtain ⟨_, _, _, _, _, _, _, _, nd⟩ := d
  rw [k.keys]; exact nd
theorem look_at {k : Txt} {y : Val} : ∀ {ks : List Txt} {ys : List Val} {j : Nat}, ks.Nodup → ks[j]? = some k → ys[j]? = some y → look k ks ys = some y
  | [], _, _, _, h, _ => by simp at h
  | _ :: _, [], _, _, _, h => by simp at h
  | a :: ks, b :: ys, 0, _, h1, h2 => by
    simp at h1 h2
    subst h1 h2
    simp [look]
  | a :: ks, b :: ys, j + 1, nd, h1, h2 => by
    simp at h1 h2
    have : a ≠ k := fun e => (List.nodup_cons.mp nd).1 (e ▸ List.mem_of_getElem? h1)
    simp only [look, if_neg this]
    exact look_at (List.nodup_cons.mp nd).2 h1 h2
theorem eqd_same {f : Val → Val → Option Bool} (hf : ∀ x y V b, Rel g ρ H x V → Rel g ρ H y V → f x y = some b → b = true) {ls : List Txt} {ys : List Val} : ∀ (ks : List Txt) (xs : List Val) (b : Bool),
    (∀ (j : Nat) k x, ks[j]? = some k → xs[j]? = some x → ∃ y v, look k ls ys = some y ∧ Rel g ρ H x v ∧ Rel g ρ H y v) → eqd f ls ys ks xs = some b → b = true
  | [], _, b, _, h => by simp only [eqd, Option.some.injEq] at h; exact h.symm
  | _ :: _, [], b, _, h => by simp only [eqd, Option.some.injEq] at h; exact h.symm
  | k :: ks, x :: xs, b, hp, h => by
    obtain ⟨y, v, e, r1, r2⟩ := hp 0 k x rfl rfl
    simp only [eqd, e] at h
    cases q : f x y with
    | none => rw [q] at h; cases h
    | some c =>
      cases q2 : eqd f ls ys ks xs with
      | none => rw [q, q2] at h; cases h
      | some d =>
        rw [q, q2] at h
        simp only [Option.map_some, Option.bind_some, Option.some.injEq] at h
        rw [← h, hf x y v c r1 r2 q, eqd_same hf ks xs d (fun j => hp (j + 1)) q2]; rfl
/-- what stands for one thing is equal -/
theorem eq_same (w : Wd g ρ st H) (ap : Apart g H) (nd : NdK H) : ∀ (n : Nat) (x y : Val) (V : V) (b : Bool), Rel g ρ H x V → Rel g ρ H y V → eqv st n x y = some b → b = true
  | 0, x, y, V, b, _, _, h => by simp [eqv] at h
  | n + 1, x, y, V, b, hx, hy, h => by
    unfold eqv at h
    cases vx : view st x with
    | none => rw [vx] at h; simp at h
    | some S =>
      cases vy : view st y with
      | none => rw [vx, vy] at h; cases S <;> simp at h
      | some T =>
        have sm := vw_cong ap (view_sd w hx vx) (view_sd w hy vy)
        rw [vx, vy] at h
        cases S with
        | flt => cases T with
          | flt => cases h; exact eqf_same hx hy (view_flt vx) (view_flt vy)
          | _ => exact sm.elim
        | tup xs => cases T with
          | tup ys =>
            obtain ⟨vs, r1, r2⟩ := sm
            dsimp only at h
            cases q : eqz (eqv st n) xs ys with
            | none => rw [q] at h; cases h
            | some c =>
              rw [q] at h
              simp only [Option.map_some, Option.some.injEq] at h
              rw [← h, eqz_same (eq_same w ap nd n) xs ys vs c r1 r2 q, r1.length, r2.length]; simp
          | _ => exact sm.elim
        | lst xs => cases T with
          | lst ys =>
            obtain ⟨vs, r1, r2⟩ := sm
            dsimp only at h
            rw [if_pos (by rw [r1.length, r2.length])] at h
            exact eqz_same (eq_same w ap nd n) xs ys vs b r1 r2 h
          | _ => exact sm.elim
        | dct ks xs => cases T with
          | dct ls ys =>
            obtain ⟨rfl, a, kvs, hr, ek, r1, r2⟩ := sm
            dsimp only at h
            rw [if_pos rfl] at h
            have hn : ks.Nodup := by
              have := nd a kvs hr
              rw [ek] at this
              exact (List.pairwise_map.mp this).imp fun h e => h (congrArg _ e)
            refine eqd_same (eq_same w ap nd n) ks xs b (fun j k x hk hx => ?_) h
            obtain ⟨v, hv, rv⟩ := r1.get hx
            obtain ⟨y, hy, ry⟩ := r2.getV hv
            exact ⟨y, v, look_at hn hk hy, rv, ry⟩
          | _ => exact sm.elim
theorem dict_at {P : Program} {W : World} {h : Heap} {a : Addr} {vs : List (Key × Value)} (d : h.DictOf (mixKind P W) a vs) : DictAt h a := by
  obtain ⟨⟨c, dd, dt, sl⟩, es, ep, ho, ⟨hc, hd, hs⟩, hdt, _⟩ := d
  simp only at hc hd hs hdt
  subst hc hd hs hdt
  exact ⟨es, ep, ho⟩
theorem eqDF {a : Addr} {y : Val} {vy : V} {u : Value} (t : DictAt s.heap a) (hy : Rel g ρ H y vy) (ru : RelV vy u) (fy : flat y = true) {A : Around} (hu : A.units < cLine) :
    (EqAt A s (.ref a) u false ∧ RcAt A s (.ref a) u false) ∧ (EqAt A s u (.ref a) false ∧ RcAt A s u (.ref a) false) := by
  rcases flat_sd hy fy with ⟨c, rfl, rfl⟩ | ⟨c, rfl, rfl⟩ | ⟨c, rfl, rfl⟩ | ⟨rfl, rfl⟩
  · cases ru; exact ⟨⟨eq_dict_bool _ t hu, rc_dict_bool _ t hu⟩, ⟨eq_bool_dict _ t hu, rc_bool_dict _ t hu⟩⟩
  · obtain ⟨t', rfl⟩ := ru; exact ⟨⟨eq_dict_int _ _ t hu, rc_dict_int _ _ t hu⟩, ⟨eq_int_dict _ _ t hu, rc_int_dict _ _ t hu⟩⟩
  · obtain ⟨t', rfl⟩ := ru; exact ⟨⟨eq_dict_str _ _ t hu, rc_dict_str _ _ t hu⟩, ⟨eq_str_dict _ _ t hu, rc_str_dict _ _ t hu⟩⟩
  · cases ru; exact ⟨⟨eq_dict_none t hu, rc_dict_none t hu⟩, ⟨eq_none_dict t hu, rc_none_dict t hu⟩⟩
/-- a dict's entries, one by one -/
theorem hits_of {P : Program} {W : World} {A : Around} {f : Val → Val → Option Bool} (hf : ∀ x y vx vy v u b, Rel g ρ H x vx → Rel g ρ H y vy → RelV vx v → RelV vy u → f x y = some b → EqP P W A s v u b)
    {ls : List Txt} {ys : List Val} {kvl : List (Key × V)} {kb : List (Key × Value)} (rl : Rels g ρ H ys (kvl.map (·.2))) (el : kvl.map (·.1) = ls.map tk) (kv : KV kvl kb) :
    ∀ {ks : List Txt} {xs : List Val} {kvs : List (Key × V)} {ka : List (Key × Value)} {b : Bool}, Rels g ρ H xs (kvs.map (·.2)) → kvs.map (·.1) = ks.map tk → KV kvs ka → eqd f ls ys ks xs = some b → PySem.W.KeqHitsP P W A s kb ka b
  | ks, xs, [], ka, b, r, e, k, h => by
    cases k
    have : ks = [] := by cases ks with | nil => rfl | cons _ _ => cases e
    subst this
    simp only [eqd, Option.some.injEq] at h
    subst h
    exact .nil
  | ks, xs, (k0, v0) :: kvs, ka, b, r, e, k, h => by
    cases k with
    | @cons _ q _ qs h1 h2 =>
      obtain ⟨q1, q2⟩ := q
      obtain ⟨hq, hv⟩ := h1
      cases ks with
      | nil => cases e
      | cons k1 ks =>
        simp only [List.map_cons, List.cons.injEq] at e
        cases xs with
        | nil => simp only [Rels, List.map_cons] at r; cases r
        | cons x xs =>
          obtain ⟨v, rr, e2, r1, r2⟩ := r.cons_inv
          simp only [List.map_cons, List.cons.injEq] at e2
          obtain ⟨rfl, rfl⟩ := e2
          have hq : k0 = q1 := hq
          subst hq
          have e0 : k0 = tk k1 := e.1
          subst e0
          simp only [eqd] at h
          cases hl : look k1 ls ys with
          | none =>
            rw [hl] at h
            simp only [Option.some.injEq] at h
            subst h
            have := look_none hl el rl
            have rr : RelO none (valueAt kb (tk k1)) := by rw [← this]; exact kv.val _
            refine .miss ?_
            cases z : valueAt kb (tk k1) with
            | none => rfl
            | some _ => rw [z] at rr; exact rr.elim
          | some y =>
            rw [hl] at h
            obtain ⟨vy, hvy, ry⟩ := look_sd hl el rl
            have rr : RelO (some vy) (valueAt kb (tk k1)) := by rw [← hvy]; exact kv.val _
            obtain ⟨u, hu, ru⟩ := rr.some_of
            dsimp only at h
            cases qf : f x y with
            | none => rw [qf] at h; cases h
            | some c =>
              cases q2' : eqd f ls ys ks xs with
              | none => rw [qf, q2'] at h; cases h
              | some d =>
                rw [qf, q2'] at h
                simp only [Option.map_some, Option.bind_some, Option.some.injEq] at h
                subst h
                exact .hit hu (hf x y v0 vy q2 u c r1 ry hv ru qf) (hits_of hf rl el kv r2 e.2 h2 q2')
/-- == of related values -/
theorem eqA (I : Inv X pins σ H s) (hK : X.K = g.K) (w : Wd g ρ st H) : ∀ (n : Nat) (x y : Val) (vx vy : V) (v u : Value) (b : Bool), Rel g ρ H x vx → Rel g ρ H y vy → RelV vx v → RelV vy u → eqv st n x y = some b →
    ∀ A : Around, A.units + n < cLine → EqP X.prog X.w A s v u b ∧ RcP X.prog X.w A s v u b
  | 0, x, y, vx, vy, v, u, b, _, _, _, _, h => by simp [eqv] at h
  | n + 1, x, y, vx, vy, v, u, b, hx, hy, rv, ru, h => fun A hu => by
    have ap := apart hK I
    have hu' : A.units < cLine := by omega
    have tp : ∀ (xs : List Val) (vx : V) (v : Value), VwR g ρ H (.tup xs) vx → RelV vx v → (∃ a its, v = .ref a ∧ vx = .ref a ∧ s.heap.IsTuple a its ∧ ∃ vs, Rels g ρ H xs vs ∧ Vals vs its.toList) := fun xs vx v hx rv => by
      obtain ⟨a, vs, rfl, h1, h2⟩ := hx
      cases rv
      obtain ⟨its, r, p, _⟩ := I.tuple (hK ▸ sqT_of h1)
      exact ⟨a, its.toArray, rfl, rfl, p, vs, h2, by simpa using r⟩
    have ls : ∀ (xs : List Val) (vx : V) (v : Value), VwR g ρ H (.lst xs) vx → RelV vx v → (∃ a its, v = .ref a ∧ vx = .ref a ∧ s.heap.IsList a its ∧ ∃ vs, Rels g ρ H xs vs ∧ Vals vs its.toList) := fun xs vx v hx rv => by
      obtain ⟨a, vs, rfl, h1, h2⟩ := hx
      cases rv
      obtain ⟨its, r, p, _⟩ := I.list (a := a) (hK ▸ h1)
      exact ⟨a, its.toArray, rfl, rfl, p.isList, vs, h2, by simpa using r⟩
    have dc : ∀ (ks : List Txt) (xs : List Val) (vx : V) (v : Value), VwR g ρ H (.dct ks xs) vx → RelV vx v → (∃ a kvs ka, v = .ref a ∧ vx = .ref a ∧ (a == sysModules) = false ∧ s.heap.DictOf (mixKind X.prog X.w) a ka ∧ KV kvs ka ∧ kvs.map (·.1) = ks.map tk ∧ Rels g ρ H xs (kvs.map (·.2))) := fun ks xs vx v hx rv => by
      obtain ⟨a, kvs, rfl, h1, h2, h3⟩ := hx
      cases rv
      obtain ⟨_, y, ka, k, d⟩ := h1.ok I.hok
      exact ⟨a, kvs, ka, rfl, rfl, y, d, k, h2, h3⟩
    have el : ∀ (xs ys : List Val) (vs us : List L2.V) (is js : Array Value) (e : Nat → Bool), Rels g ρ H xs vs → Rels g ρ H ys us → Vals vs is.toList → Vals us js.toList →
        (∀ (j : Nat) x y, xs[j]? = some x → ys[j]? = some y → eqv st n x y = some (e j)) → ∀ j (h1 : j < is.size) (h2 : j < js.size), EqP X.prog X.w A.in1 s is[j] js[j] (e j) := fun xs ys vs us is js e r1 r2 v1 v2 he j h1 h2 => by
      have l1 := v1.length
      have l2 := v2.length
      simp only [Array.length_toList] at l1 l2
      obtain ⟨a1, ha1⟩ : ∃ a, vs[j]? = some a := ⟨_, List.getElem?_eq_getElem (by omega)⟩
      obtain ⟨a2, ha2⟩ : ∃ a, us[j]? = some a := ⟨_, List.getElem?_eq_getElem (by omega)⟩
      obtain ⟨z1, hz1, q1⟩ := r1.getV ha1
      obtain ⟨z2, hz2, q2⟩ := r2.getV ha2
      obtain ⟨c1, hc1, p1⟩ := v1.get ha1
      obtain ⟨c2, hc2, p2⟩ := v2.get ha2
      have e1 : is[j] = c1 := by simpa [h1] using hc1
      have e2 : js[j] = c2 := by simpa [h2] using hc2
      rw [e1, e2]
      exact (eqA I hK w n z1 z2 a1 a2 c1 c2 (e j) q1 q2 p1 p2 (he j z1 z2 hz1 hz2) A.in1 (by show A.units + 1 + n < cLine; omega)).1
    have fin : ∀ (a a' : Addr), vx = .ref a → vy = .ref a' → v = .ref a → u = .ref a' → RcP X.prog X.w A s v u b → EqP X.prog X.w A s v u b ∧ RcP X.prog X.w A s v u b := fun a a' e1 e2 e3 e4 rc => by
      refine ⟨?_, rc⟩
      subst e1 e2 e3 e4
      by_cases ea : a = a'
      · subst ea
        rw [eq_same w ap (ndk I) (n + 1) x y _ b hx hy h]; exact (EqAt.same _).eqP
      · exact eqP_refs ea rc
    have hh := h
    unfold eqv at h
    cases wx : view st x with
    | none => rw [wx] at h; simp at h
    | some S =>
      cases wy : view st y with
      | none => rw [wx, wy] at h; cases S <;> simp at h
      | some T =>
        have kx := view_sd w hx wx
        have ky := view_sd w hy wy
        rw [wx, wy] at h
        cases S with
        | flt =>
          have fx := view_flt wx
          cases T with
          | flt => cases h; exact both (eqF hx hy rv ru fx (view_flt wy) A)
          | tup ys => cases h; obtain ⟨a', js, rfl, rfl, t2, _⟩ := tp ys vy u ky ru; exact both (eqTF t2 hx rv fx hu').2
          | lst ys => cases h; obtain ⟨a', js, rfl, rfl, t2, _⟩ := ls ys vy u ky ru; exact both (eqLF t2 hx rv fx hu').2
          | dct kl ys => cases h; obtain ⟨a', kvs, ka, rfl, rfl, _, d, _⟩ := dc kl ys vy u ky ru; exact both (eqDF (dict_at d) hx rv fx hu').2
        | tup xs =>
          obtain ⟨a, is, rfl, rfl, t1, vs, r1, v1⟩ := tp xs vx v kx rv
          cases T with
          | flt => cases h; exact both (eqTF t1 hy ru (view_flt wy) hu').1
          | tup ys =>
            obtain ⟨a', js, rfl, rfl, t2, us, r2, v2⟩ := tp ys vy u ky ru
            dsimp only at h
            cases q : eqz (eqv st n) xs ys with
            | none => rw [q] at h; cases h
            | some c =>
              rw [q] at h
              simp only [Option.map_some, Option.some.injEq] at h
              obtain ⟨e, he, hc⟩ := eqz_all xs ys c q
              have l1 := v1.length
              have l2 := v2.length
              simp only [Array.length_toList] at l1 l2
              have rc := rcP_tuples (f := e) t1 t2 hu' (el xs ys vs us is js e r1 r2 v1 v2 he)
              have eb : ((List.range (min is.size js.size)).all e && is.size == js.size) = b := by
                rw [← h, hc, ← l1, ← l2, r1.length, r2.length]
              rw [eb] at rc
              exact fin a a' rfl rfl rfl rfl rc
          | lst ys => cases h; obtain ⟨a', js, rfl, rfl, t2, _⟩ := ls ys vy u ky ru; exact fin a a' rfl rfl rfl rfl (rcP (RcAt.tuple_list t1 t2 hu'))
          | dct kl ys => cases h; obtain ⟨a', kvs, ka, rfl, rfl, _, d, _⟩ := dc kl ys vy u ky ru; exact fin a a' rfl rfl rfl rfl (rcP (rc_tuple_dict (dict_at d) t1 hu'))
        | lst xs =>
          obtain ⟨a, is, rfl, rfl, t1, vs, r1, v1⟩ := ls xs vx v kx rv
          cases T with
          | flt => cases h; exact both (eqLF t1 hy ru (view_flt wy) hu').1
          | tup ys => cases h; obtain ⟨a', js, rfl, rfl, t2, _⟩ := tp ys vy u ky ru; exact fin a a' rfl rfl rfl rfl (rcP (RcAt.list_tuple t1 t2 hu'))
          | lst ys =>
            obtain ⟨a', js, rfl, rfl, t2, us, r2, v2⟩ := ls ys vy u ky ru
            dsimp only at h
            have l1 := v1.length
            have l2 := v2.length
            simp only [Array.length_toList] at l1 l2
            split at h
            · rename_i hl
              obtain ⟨e, he, hc⟩ := eqz_all xs ys b h
              have rc : RcP X.prog X.w A s (.ref a) (.ref a') ((List.range is.size).all e) := rcP_lists (e := e) t1 t2 (by rw [← l1, ← l2, ← r1.length, ← r2.length]; exact hl) hu' (el xs ys vs us is js e r1 r2 v1 v2 he)
              refine fin a a' rfl rfl rfl rfl ?_
              rw [hc, ← hl, Nat.min_self, r1.length, l1]; exact rc
            · rename_i hl
              cases h
              refine fin a a' rfl rfl rfl rfl (rcP (RcAt.lists_lengths t1 t2 ?_ hu'))
              rw [← l1, ← l2, ← r1.length, ← r2.length]
              simpa using hl
          | dct kl ys => cases h; obtain ⟨a', kvs, ka, rfl, rfl, _, d, _⟩ := dc kl ys vy u ky ru; exact fin a a' rfl rfl rfl rfl (rcP (rc_list_dict (dict_at d) t1 hu'))
        | dct kk xs =>
          obtain ⟨a, kvs, ka, rfl, rfl, ya, da, kva, ea, ra⟩ := dc kk xs vx v kx rv
          cases T with
          | flt => cases h; exact both (eqDF (dict_at da) hy ru (view_flt wy) hu').1
          | tup ys => cases h; obtain ⟨a', js, rfl, rfl, t2, _⟩ := tp ys vy u ky ru; exact fin a a' rfl rfl rfl rfl (rcP (rc_dict_tuple (dict_at da) t2 hu'))
          | lst ys => cases h; obtain ⟨a', js, rfl, rfl, t2, _⟩ := ls ys vy u ky ru; exact fin a a' rfl rfl rfl rfl (rcP (rc_dict_list (dict_at da) t2 hu'))
          | dct kl ys =>
            obtain ⟨a', kvl, kb, rfl, rfl, yb, db, kvb, eb, rb⟩ := dc kl ys vy u ky ru
            dsimp only at h
            have l1 : ka.length = kk.length := by
              have := congrArg List.length ea
              simp only [List.length_map] at this
              rw [← this, kva.length]
            have l2 : kb.length = kl.length := by
              have := congrArg List.length eb
              simp only [List.length_map] at this
              rw [← this, kvb.length]
            split at h
            · rename_i hl
              have hits := hits_of (P := X.prog) (W := X.w) (A := A.in1) (fun x y vx vy v u b h1 h2 h3 h4 h5 => (eqA I hK w n x y vx vy v u b h1 h2 h3 h4 h5 A.in1 (by show A.units + 1 + n < cLine; omega)).1) rb eb kvb ra ea kva h
              refine fin a a' rfl rfl rfl rfl fun E Q q => PySem.W.rcP_dicts (knd := mixKind X.prog X.w) ya yb da db hu' (fun _ => hits) E Q ?_
              rw [l1, l2, hl]; simpa using q
            · rename_i hl
              cases h
              refine fin a a' rfl rfl rfl rfl fun E Q q => PySem.W.rcP_dicts (knd := mixKind X.prog X.w) (r := true) ya yb da db hu' (fun e => absurd (by rw [← l1, ← l2]; exact e) hl) E Q ?_
              have z : (kk.length == kl.length) = false := by simpa using hl
              rw [l1, l2, z]; exact q
end
end Mi
namespace Mi
open PySem L2 PySem.SeqAt PyProof.Rows

def R2v (g : Gd) (f : Store → Val → Val → Option Val) : R2 := fun x y H Q => ∃ ρ st a b v, Wd g ρ st H ∧ Rel g ρ H a x ∧ Rel g ρ H b y ∧ f st a b = some v ∧
  ∀ ρ' H', Ext ρ H ρ' H' → Wd g ρ' st H' → ∀ V, Rel g ρ' H' v V → Q V H'
def bo : BO → Operator
  | .add => .Add | .sub => .Sub | .mul => .Mult | .fdiv => .FloorDiv | .mod => .Mod | .pow => .Pow
def co : CO → CmpOp
  | .eq => .Eq | .ne => .NotEq | .lt => .Lt | .le => .LtE | .gt => .Gt | .ge => .GtE | .isin => .In | .notin => .NotIn

section
variable {X : Cx} {g : Gd} {ρ : List Addr} {H : Hp} {st : Store}
theorem op_catR : OpR X (binaryOp .Add) (fun x y H Q => ∃ l b xs zs, x = .ref l ∧ y = .ref b ∧ SqL X.K H l xs ∧ SqL X.K H b zs ∧ xs.length + zs.length ≤ sizeLine ∧ ∀ p, H p = none → Q (.ref p) (upd H p (.lst (xs ++ zs)))) := by
  intro pins s σ H x y v u Q I rx ry h
  obtain ⟨l, b, xs, zs, rfl, rfl, hA, hB, hz, q⟩ := h
  cases rx
  cases ry
  obtain ⟨is, r, ⟨oa, n, e, c1, d1, f1⟩, _⟩ := I.list hA
  obtain ⟨js, r2, ⟨ob, m, e2, c2, d2, f2⟩, _⟩ := I.list hB
  have hl := r.length
  have hl2 := r2.length
  obtain ⟨oc, od, dt, osl⟩ := oa
  obtain ⟨oc', od', dt', osl'⟩ := ob
  simp only at c1 d1 f1 c2 d2 f2
  subst c1 d1 f1 c2 d2 f2
  refine concat_meets ⟨_, e, rfl⟩ ⟨_, e2, rfl⟩ noFill_list_add seq_list_add PySem.F.slot_list_add PySem.F.entry_list_add (PySem.F.args_list_add_2 _ _) (list_addW l b is.toArray js.toArray n m none none osl osl' (by simp only [List.size_toArray]; omega)) ⟨e, e2, ?_⟩
  rw [show is.toArray ++ js.toArray = (is ++ js).toArray by simp]
  exact ⟨.ref _, _, I.lnew (t' := s.toks) (r.append r2) (by rw [List.length_append]; omega), rfl, q _ I.fresh⟩

theorem log200 {j : Int} (h0 : 0 < j) (h : j < 2 ^ 200) : j.natAbs.log2 < 9000 := by
  have h1 : j.natAbs < 2 ^ 200 := by omega
  have h2 := (Nat.log2_lt (n := j.natAbs) (k := 200) (by omega)).mpr h1
  omega
theorem abs63 {j : Int} (h0 : -(2 ^ 63) < j) (h : j < 2 ^ 63) : j.natAbs < 2 ^ 64 := by omega
theorem rep_cps (x : Array Nat) : ∀ (n : Nat) (acc : Array Nat), (List.replicate n x).foldl (· ++ ·) acc = acc ++ (repT x.toList n).toArray
  | 0, acc => by simp [repT]
  | n + 1, acc => by
    rw [List.replicate_succ, List.foldl_cons, rep_cps x n (acc ++ x), repT, Array.append_assoc]
    congr 1
    apply Array.toList_inj.mp
    simp
theorem rep_len (s : Txt) : ∀ n : Nat, (repT s n).length = s.length * n
  | 0 => by simp [repT]
  | n + 1 => by rw [repT, List.length_append, rep_len s n, Nat.mul_succ]; omega
theorem mul_txt (s : Txt) (j : Int) (h0 : 0 ≤ j) : PySem.Txt.mul (tx s) j = tx (repT s j.toNat) := by
  unfold PySem.Txt.mul
  by_cases h1 : j < 1
  · rw [if_pos h1]
    have : j = 0 := by omega
    subst this; rfl
  · rw [if_neg h1]
    split
    · rename_i hc
      simp only [Bool.or_eq_true, beq_iff_eq] at hc
      rcases hc with hc | hc
      · subst hc; simp [repT, tx]
      · have : s = [] := by
          rw [tx_len] at hc
          exact List.length_eq_zero_iff.mp hc
        subst this
        have : ∀ n, repT ([] : Txt) n = [] := fun n => by
          induction n with
          | zero => rfl
          | succ n ih => rw [repT, ih]; rfl
        rw [this]
    · show (⟨(List.replicate j.toNat (tx s).cps).foldl (· ++ ·) #[]⟩ : Str) = _
      rw [rep_cps]
      simp [tx]
theorem mulOk {s : Txt} {j : Int} (h0 : 0 ≤ j) (h1 : j < 2 ^ 24) (h2 : s.length * j.toNat ≤ 16777216) : MulOk (tx s) j := by
  refine ⟨?_, fun h3 _ => ?_, fun _ _ => ?_⟩
  · rw [decide_eq_false (by omega), decide_eq_false (by omega)]; rfl
  · rw [tx_len]
    have hj : 1 ≤ j := by omega
    have hs : s.length ≤ 16777216 := by
      have : s.length * 1 ≤ s.length * j.toNat := Nat.mul_le_mul_left _ (by omega)
      omega
    have : (549755813887 : Int) ≤ (2 ^ 63 - 1) / j := by
      rw [Int.le_ediv_iff_mul_le (by omega)]
      omega
    omega
  · rw [tx_len]
    unfold Builtin.Str.tooLong
    have e : sizeLine = 16777216 := by decide
    rw [e]
    simpa using h2
theorem op_mulS : OpR X (binaryOp .Mult) (fun x y H Q => ∃ s j, x = .str (tx s) ∧ y = .int j ∧ 0 ≤ j ∧ j < 2 ^ 24 ∧ s.length * j.toNat ≤ 16777216 ∧ Q (.str (tx (repT s j.toNat))) H) := by
  intro pins s σ H x y v u Q I rx ry h
  obtain ⟨z, j, rfl, rfl, h0, h1, h2, q⟩ := h
  obtain ⟨t, rfl⟩ := rx
  obtain ⟨t', rfl⟩ := ry
  refine SB.mul (mulOk h0 h1 h2) fun t2 k => ?_
  rw [mul_txt _ _ h0]
  exact ⟨.str _, H, I.tok _, ⟨_, rfl⟩, q⟩

theorem opB (hK : X.K = g.K) (o : BO) : OpR X (binaryOp (bo o)) (R2v g fun st => binV st o) := by
  intro pins s σ H x y v u Q I rx ry h
  obtain ⟨ρ, st, a, b, z, w, ra, rb, hz, q⟩ := h
  have fin : ∀ V, Rel g ρ H z V → Q V H := fun V r => q ρ H Ext.refl w V r
  cases o with
  | add =>
    simp only [binV] at hz
    obtain ⟨a', ea⟩ : ∃ x', a = x' := ⟨a, rfl⟩
    obtain ⟨b', eb⟩ : ∃ y', b = y' := ⟨b, rfl⟩
    unfold addV at hz
    split at hz
    · simp only [Rel] at ra rb; subst ra; subst rb; cases hz
      exact op_add pins s σ H _ _ v u Q I rx ry ⟨_, _, rfl, rfl, fin _ rel_int⟩
    · simp only [Rel] at ra rb; obtain ⟨rfl, _⟩ := ra; obtain ⟨rfl, _⟩ := rb
      split at hz
      · rename_i hl
        cases hz
        refine op_add_str pins s σ H _ _ v u Q I rx ry ⟨_, _, rfl, rfl, by rw [tx_len, tx_len]; exact hl, ?_⟩
        rw [tx_app]; exact fin _ (rel_str (by rw [List.length_append]; exact hl))
      · cases hz
    · rename_i xs ys
      split at hz
      · rename_i hl
        cases hz
        obtain ⟨p, vs, rfl, h1, _, h2⟩ := tup_sd ra
        obtain ⟨p', us, rfl, k1, _, k2⟩ := tup_sd rb
        have e1 := h2.length
        have e2 := k2.length
        refine op_catA pins s σ H _ _ v u Q I rx ry ⟨p, p', vs, us, rfl, rfl, hK ▸ h1, hK ▸ k1, by omega, fun hn => ?_, fun _ hn => ?_, fun _ _ r hr => ?_⟩
        · have : xs = [] := by
            cases xs with
            | nil => rfl
            | cons _ _ => rw [hn] at e1; cases e1
          subst this
          exact fin _ rb
        · have : ys = [] := by
            cases ys with
            | nil => rfl
            | cons _ _ => rw [hn] at e2; cases e2
          subst this
          rw [List.append_nil] at fin
          exact fin _ ra
        · exact q ρ _ (Ext.new hr) (w.new hr) _ (newT w (h2.append k2) (by rw [List.length_append]; exact hl) hr)
      · cases hz
    · rw [ea, eb] at hz
      rw [ea] at ra
      rw [eb] at rb
      generalize a' = a at *
      generalize b' = b at *
      cases q1 : asL st a with
      | none => rw [q1] at hz; cases hz
      | some xs =>
        cases q2 : asL st b with
        | none => rw [q1, q2] at hz; cases hz
        | some ys =>
          rw [q1, q2] at hz
          simp only [Option.bind_some] at hz
          split at hz
          · rename_i hl
            cases hz
            obtain ⟨p, vs, rfl, h1, _, h2⟩ := asL_sd w ra q1
            obtain ⟨p', us, rfl, k1, _, k2⟩ := asL_sd w rb q2
            refine thn (op_catR pins s σ H _ _ v u (Sh Q) I rx ry ⟨p, p', vs, us, rfl, rfl, hK ▸ h1, hK ▸ k1, by rw [← h2.length, ← k2.length]; exact hl, fun r hr => ?_⟩) fun _ _ z => EP.sh z
            exact shL w (h2.append k2) (by rw [List.length_append]; exact hl) q hr
          · cases hz
  | sub =>
    cases a <;> cases b <;> simp only [binV, reduceCtorEq, Option.some.injEq] at hz
    subst hz
    simp only [Rel] at ra rb; subst ra; subst rb
    exact op_sub pins s σ H _ _ v u Q I rx ry ⟨_, _, rfl, rfl, fin _ rel_int⟩
  | mul =>
    cases a <;> cases b <;> simp only [binV, reduceCtorEq] at hz
    split at hz
    · rename_i hc
      cases hz
      simp only [Rel] at ra rb; subst ra; subst rb
      exact op_mul pins s σ H _ _ v u Q I rx ry ⟨_, _, rfl, rfl, hc, fin _ rel_int⟩
    · cases hz
    split at hz
    · rename_i hc
      cases hz
      simp only [Rel] at ra rb; obtain ⟨rfl, _⟩ := ra; subst rb
      exact op_mulS pins s σ H _ _ v u Q I rx ry ⟨_, _, rfl, rfl, hc.1, hc.2.1, hc.2.2, fin _ (rel_str (by rw [rep_len]; exact Nat.le_trans hc.2.2 (by decide)))⟩
    · cases hz
  | fdiv =>
    cases a <;> cases b <;> simp only [binV, reduceCtorEq] at hz
    split at hz
    · rename_i hc
      cases hz
      simp only [Rel] at ra rb; subst ra; subst rb
      exact op_fdivW pins s σ H _ _ v u Q I rx ry ⟨_, _, rfl, rfl, ⟨hc.1, log200 hc.1 hc.2⟩, fin _ rel_int⟩
    · cases hz
  | mod =>
    cases a <;> cases b <;> simp only [binV, reduceCtorEq] at hz
    split at hz
    · rename_i hc
      cases hz
      simp only [Rel] at ra rb; subst ra; subst rb
      exact op_mod pins s σ H _ _ v u Q I rx ry ⟨_, _, rfl, rfl, hc, fin _ rel_int⟩
    · cases hz
  | pow =>
    cases a <;> cases b <;> simp only [binV, reduceCtorEq] at hz
    split at hz
    · rename_i hc
      cases hz
      simp only [Rel] at ra rb; subst ra; subst rb
      exact op_pow pins s σ H _ _ v u Q I rx ry ⟨_, _, rfl, rfl, ⟨hc.1, hc.2.1, abs63 hc.2.2.1 hc.2.2.2⟩, fin _ rel_int⟩
    · cases hz
end
end Mi
namespace Mi
open PySem L2 PySem.SeqAt

section
variable {X : Cx} {g : Gd} {ρ : List Addr} {H : Hp} {st : Store} {pins : List (Addr × Obj)} {σ : St} {s : Shared}
theorem eqz_cong {f : Val → Val → Option Bool} (hf : ∀ x y z V b c, Rel g ρ H x V → Rel g ρ H y V → f x z = some b → f y z = some c → b = c) :
    ∀ (xs ys zs : List Val) (vs : List V) (b c : Bool), Rels g ρ H xs vs → Rels g ρ H ys vs → eqz f xs zs = some b → eqz f ys zs = some c → b = c
  | [], ys, zs, vs, b, c, h1, h2, e1, e2 => by
    simp only [Rels] at h1; subst h1
    have := h2.length
    cases ys with
    | nil => rw [e1] at e2; exact Option.some.inj e2
    | cons _ _ => cases this
  | x :: xs, ys, zs, vs, b, c, h1, h2, e1, e2 => by
    obtain ⟨v, r, rfl, a1, a2⟩ := h1.cons_inv
    cases ys with
    | nil => simp only [Rels] at h2; cases h2
    | cons y ys =>
      obtain ⟨v', r', e, b1, b2⟩ := h2.cons_inv
      cases e
      cases zs with
      | nil =>
        simp only [eqz, Option.some.injEq] at e1 e2
        rw [← e1, ← e2]
      | cons z zs =>
        simp only [eqz] at e1 e2
        cases q1 : f x z with
        | none => rw [q1] at e1; cases e1
        | some p =>
          cases q2 : eqz f xs zs with
          | none => rw [q1, q2] at e1; cases e1
          | some q =>
            cases q3 : f y z with
            | none => rw [q3] at e2; cases e2
            | some p' =>
              cases q4 : eqz f ys zs with
              | none => rw [q3, q4] at e2; cases e2
              | some q' =>
                rw [q1, q2] at e1
                rw [q3, q4] at e2
                simp only [Option.map_some, Option.bind_some, Option.some.injEq] at e1 e2
                rw [← e1, ← e2, hf x y z v p p' a1 b1 q1 q3, eqz_cong hf xs ys zs r q q' a2 b2 q2 q4]
theorem asL_cong (w : Wd g ρ st H) (ap : Apart g H) {x y : Val} {V : V} {us ts : List Val} (hx : Rel g ρ H x V) (hy : Rel g ρ H y V) (e1 : asL st x = some us) (e2 : asL st y = some ts) : ∃ vs, Rels g ρ H us vs ∧ Rels g ρ H ts vs := by
  obtain ⟨a1, v1, q1, h1, _, r1⟩ := asL_sd w hx e1
  obtain ⟨a2, v2, q2, h2, _, r2⟩ := asL_sd w hy e2
  subst q1; cases q2
  have e : v1 = v2 := by
    rcases h1 with (h1 | ⟨o, h1⟩) | h1 <;> rcases h2 with (h2 | ⟨o', h2⟩) | h2
    · rw [h1] at h2; injection h2 with h2; injection h2
    · rw [h1] at h2; cases h2
    · rw [klst_none ap h2] at h1; cases h1
    · rw [h1] at h2; cases h2
    · rw [h1] at h2; injection h2 with h2; injection h2 with _ h2; injection h2
    · rw [klst_none ap h2] at h1; cases h1
    · rw [klst_none ap h1] at h2; cases h2
    · rw [klst_none ap h1] at h2; cases h2
    · exact klst_inj h1 h2
  subst e
  exact ⟨v1, r1, r2⟩
theorem tup_cong (ap : Apart g H) {xs ys : List Val} {V : V} (hx : Rel g ρ H (.tup xs) V) (hy : Rel g ρ H (.tup ys) V) : ∃ vs, Rels g ρ H xs vs ∧ Rels g ρ H ys vs := by
  simp only [Rel] at hx hy
  obtain ⟨a1, v1, q1, h1, _, r1⟩ := hx
  obtain ⟨a2, v2, q2, h2, _, r2⟩ := hy
  subst q1; cases q2
  have e : v1 = v2 := by
    rcases h1 with h1 | h1 <;> rcases h2 with h2 | h2
    · rw [h1] at h2; injection h2 with h2; injection h2
    · rw [ktup_none ap h2] at h1; cases h1
    · rw [ktup_none ap h1] at h2; cases h2
    · exact ktup_inj h1 h2
  subst e
  exact ⟨v1, r1, r2⟩
theorem tup_lst (w : Wd g ρ st H) (ap : Apart g H) {ts us : List Val} {z : Val} {V : V} (h1 : Rel g ρ H (.tup ts) V) (h2 : Rel g ρ H z V) (e : asL st z = some us) : False := by
  simp only [Rel] at h1
  obtain ⟨a, vs, e1, h3, _⟩ := h1
  subst e1
  obtain ⟨a', vs', e1, h4, _⟩ := asL_sd w h2 e
  cases e1
  rcases h3 with h3 | h3 <;> rcases h4 with (h4 | ⟨o, h4⟩) | h4
  · rw [h3] at h4; cases h4
  · rw [h3] at h4; cases h4
  · rw [klst_none ap h4] at h3; cases h3
  · rw [ktup_none ap h3] at h4; cases h4
  · rw [ktup_none ap h3] at h4; cases h4
  · exact ktup_klst h3 h4
theorem flat_cong {x y : Val} {V : V} (hx : Rel g ρ H x V) (hy : Rel g ρ H y V) (fx : flat x = true) : x = y := by
  cases x <;> first | (exact nomatch (show false = true from fx)) | skip
  all_goals simp only [Rel] at hx
  all_goals first | subst hx | obtain ⟨rfl, _⟩ := hx
  all_goals cases y <;> simp [Rel] at hy ⊢
  all_goals first | exact hy | exact tx_inj hy.1
theorem eqd_cong {f : Val → Val → Option Bool} {ls : List Txt} {zs : List Val} (hf : ∀ x y z V b c, Rel g ρ H x V → Rel g ρ H y V → f x z = some b → f y z = some c → b = c) : ∀ (ks : List Txt) (xs ys : List Val) (vs : List V) (b c : Bool),
    Rels g ρ H xs vs → Rels g ρ H ys vs → eqd f ls zs ks xs = some b → eqd f ls zs ks ys = some c → b = c
  | [], xs, ys, vs, b, c, _, _, e1, e2 => by
    simp only [eqd, Option.some.injEq] at e1 e2
    rw [← e1, ← e2]
  | k :: ks, [], ys, vs, b, c, r1, r2, e1, e2 => by
    simp only [Rels] at r1
    subst r1
    cases ys with
    | nil =>
      simp only [eqd, Option.some.injEq] at e1 e2
      rw [← e1, ← e2]
    | cons y ys => obtain ⟨_, _, e, _⟩ := r2.cons_inv; cases e
  | k :: ks, x :: xs, ys, vs, b, c, r1, r2, e1, e2 => by
    obtain ⟨v, r, rfl, a1, a2⟩ := r1.cons_inv
    cases ys with
    | nil => simp only [Rels] at r2; cases r2
    | cons y ys =>
      obtain ⟨v', r', e, b1, b2⟩ := r2.cons_inv
      cases e
      simp only [eqd] at e1 e2
      cases q : look k ls zs with
      | none =>
        rw [q] at e1 e2
        rw [e1] at e2; exact Option.some.inj e2
      | some z =>
        rw [q] at e1 e2
        dsimp only at e1 e2
        cases p1 : f x z with
        | none => rw [p1] at e1; cases e1
        | some c1 =>
          cases p2 : f y z with
          | none => rw [p2] at e2; cases e2
          | some c2 =>
            cases p3 : eqd f ls zs ks xs with
            | none => rw [p1, p3] at e1; cases e1
            | some d1 =>
              cases p4 : eqd f ls zs ks ys with
              | none => rw [p2, p4] at e2; cases e2
              | some d2 =>
                rw [p1, p3] at e1
                rw [p2, p4] at e2
                simp only [Option.map_some, Option.bind_some, Option.some.injEq] at e1 e2
                rw [← e1, ← e2, hf x y z v c1 c2 a1 b1 p1 p2, eqd_cong hf ks xs ys r d1 d2 a2 b2 p3 p4]
/-- the same thing gives the same answer -/
theorem eq_cong (w : Wd g ρ st H) (ap : Apart g H) : ∀ (n : Nat) (x y z : Val) (V : V) (b c : Bool), Rel g ρ H x V → Rel g ρ H y V → eqv st n x z = some b → eqv st n y z = some c → b = c
  | 0, x, y, z, V, b, c, _, _, e1, _ => by simp [eqv] at e1
  | n + 1, x, y, z, V, b, c, hx, hy, e1, e2 => by
    by_cases fx : flat x = true
    · have := flat_cong hx hy fx
      subst this
      rw [e1] at e2; exact Option.some.inj e2
    by_cases fy : flat y = true
    · have := flat_cong hy hx fy
      subst this
      exact absurd fy fx
    unfold eqv at e1 e2
    cases vx : view st x with
    | none => rw [vx] at e1; simp at e1
    | some S =>
      cases vy : view st y with
      | none => rw [vy] at e2; simp at e2
      | some T =>
        cases vz : view st z with
        | none => rw [vx, vz] at e1; cases S <;> simp at e1
        | some U =>
          have sm := vw_cong ap (view_sd w hx vx) (view_sd w hy vy)
          rw [vx, vz] at e1
          rw [vy, vz] at e2
          cases S with
          | flt => exact absurd (view_flt vx) fx
          | tup xs => cases T with
            | tup ys =>
              obtain ⟨vs, r1, r2⟩ := sm
              cases U with
              | tup zs =>
                dsimp only at e1 e2
                cases q1 : eqz (eqv st n) xs zs with
                | none => rw [q1] at e1; cases e1
                | some p =>
                  cases q2 : eqz (eqv st n) ys zs with
                  | none => rw [q2] at e2; cases e2
                  | some q =>
                    rw [q1] at e1
                    rw [q2] at e2
                    simp only [Option.map_some, Option.some.injEq] at e1 e2
                    rw [← e1, ← e2, eqz_cong (eq_cong w ap n) xs ys zs vs p q r1 r2 q1 q2, r1.length, r2.length]
              | _ => cases e1; cases e2; rfl
            | _ => exact sm.elim
          | lst xs => cases T with
            | lst ys =>
              obtain ⟨vs, r1, r2⟩ := sm
              cases U with
              | lst zs =>
                dsimp only at e1 e2
                rw [r1.length] at e1
                rw [r2.length] at e2
                split at e1
                · rename_i hl
                  rw [if_pos hl] at e2
                  exact eqz_cong (eq_cong w ap n) xs ys zs vs b c r1 r2 e1 e2
                · rename_i hl
                  rw [if_neg hl] at e2
                  rw [e1] at e2; exact Option.some.inj e2
              | _ => cases e1; cases e2; rfl
            | _ => exact sm.elim
          | dct ks xs => cases T with
            | dct ls ys =>
              obtain ⟨rfl, a, kvs, hr, ek, r1, r2⟩ := sm
              cases U with
              | dct lz zs =>
                dsimp only at e1 e2
                split at e1
                · rename_i hl
                  rw [if_pos hl] at e2
                  exact eqd_cong (eq_cong w ap n) ks xs ys _ b c r1 r2 e1 e2
                · rename_i hl
                  rw [if_neg hl] at e2
                  rw [e1] at e2; exact Option.some.inj e2
              | _ => cases e1; cases e2; rfl
            | _ => exact sm.elim
open Classical in
theorem in_sd (I : Inv X pins σ H s) (hK : X.K = g.K) (w : Wd g ρ st H) {x0 : Val} {v0 : V} {u0 : Value} (h0 : Rel g ρ H x0 v0) (r0 : RelV v0 u0) {A : Around} (hu : A.units + 60 < cLine) :
    ∃ e : Value → Bool, ∀ (xs : List Val) (vs : List V) (us : List Value) (b : Bool), Rels g ρ H xs vs → Vals vs us → inV' st x0 xs = some b → (∀ y ∈ us, EqP X.prog X.w A s y u0 (e y)) ∧ us.any e = b := by
  have ap := apart hK I
  refine ⟨fun y => decide (∃ x v, Rel g ρ H x v ∧ RelV v y ∧ eqv st 60 x x0 = some true), ?_⟩
  intro xs
  induction xs with
  | nil =>
    intro vs us b hr hv h
    simp only [Rels] at hr; subst hr
    cases hv
    simp only [inV', Option.some.injEq] at h
    exact ⟨fun _ z => (List.not_mem_nil z).elim, h⟩
  | cons x xs ih =>
    intro vs us b hr hv h
    obtain ⟨v, r, rfl, h1, h2⟩ := hr.cons_inv
    cases hv with
    | @cons _ u _ us' a1 a2 =>
      simp only [inV'] at h
      cases q1 : eqv st 60 x x0 with
      | none => rw [q1] at h; cases h
      | some c =>
        cases q2 : inV' st x0 xs with
        | none => rw [q1, q2] at h; cases h
        | some d =>
          rw [q1, q2] at h
          simp only [Option.bind_some, Option.map_some, Option.some.injEq] at h
          obtain ⟨k1, k2⟩ := ih r us' d h2 a2 q2
          have e1 : decide (∃ x v, Rel g ρ H x v ∧ RelV v u ∧ eqv st 60 x x0 = some true) = c := by
            cases c with
            | true => exact decide_eq_true ⟨x, v, h1, a1, q1⟩
            | false =>
              refine decide_eq_false ?_
              rintro ⟨x', v', z1, z2, z3⟩
              have ev := RelV.inj z2 a1
              subst ev
              exact nomatch (eq_cong w ap 60 x' x x0 v' true false z1 h1 z3 q1)
          refine ⟨fun y hy => ?_, ?_⟩
          · rcases List.mem_cons.mp hy with rfl | hy
            · show EqP X.prog X.w A s y u0 (decide _)
              rw [e1]
              exact (eqA I hK w 60 x x0 v v0 y u0 c h1 h0 a1 r0 q1 A hu).1
            · exact k1 y hy
          · rw [List.any_cons, k2, ← h]
            congr 1
theorem Rels.keys {ks : List Txt} {xs : List Val} {kvs : List (Key × V)} (e : kvs.map (·.1) = ks.map tk) (r : Rels g ρ H xs (kvs.map (·.2))) (k : Txt) : (look k ks xs).isSome = (valV kvs (tk k)).isSome := by
  cases q : look k ks xs with
  | none => rw [look_none q e r]; rfl
  | some x => obtain ⟨v, h, _⟩ := look_sd q e r; rw [h]; rfl
end

section
variable {X : Cx} {g : Gd}
theorem opIn (hK : X.K = g.K) (hu : X.A.units + 64 < cLine) (neg : Bool) : OpR X (compareOp (if neg then .NotIn else .In)) (R2v g fun st a b => (isinV st a b).map fun k => .bl (if neg then !k else k)) := by
  intro pins s σ H x y v u Q I rx ry h
  obtain ⟨ρ, st, a, b, z, w, ra, rb, hz, q⟩ := h
  have fin : ∀ V, Rel g ρ H z V → Q V H := fun V r => q ρ H Ext.refl w V r
  simp only at hz
  cases hk : isinV st a b with
  | none => rw [hk] at hz; cases hz
  | some k =>
    rw [hk] at hz
    simp only [Option.map_some, Option.some.injEq] at hz
    subst hz
    have ok : EP X pins σ Q (.bool (if neg then !k else k)) s := ⟨.bl _, H, I, rfl, fin _ rel_bl⟩
    have hu1 : X.A.in1.units + 60 < cLine := by show X.A.units + 1 + 60 < cLine; omega
    -- a list or a tuple
    have sq : ∀ (xs : List Val) (p : Addr) (vs : List V), y = .ref p → Rels g ρ H xs vs → (SqL X.K H p vs ∨ SqT X.K H p vs) → inV' st a xs = some k → wpAny (model X.prog X.w) X.A (compareOp (if neg then .NotIn else .In) v u) (EP X pins σ Q) X.xe s := by
      intro xs p vs e hr hs hi
      subst e
      cases ry
      obtain ⟨e, he⟩ := in_sd I hK w ra rx (A := X.A.in1) hu1
      rcases hs with hs | hs
      · obtain ⟨us, rv, pl, _⟩ := I.list hs
        obtain ⟨k1, k2⟩ := he xs vs us k hr rv hi
        exact inP_list neg e pl.isList (fun y hy => k1 y (by simpa using hy)) (by rw [List.any_toArray, k2]; exact ok)
      · obtain ⟨us, rv, pl, _⟩ := I.tuple hs
        obtain ⟨k1, k2⟩ := he xs vs us k hr rv hi
        exact inP_tuple neg e pl (fun y hy => k1 y (by simpa using hy)) (by rw [List.any_toArray, k2]; exact ok)
    have dd : ∀ (ks : List Txt) (xs : List Val) (p : Addr) (kvs : List (Key × V)), y = .ref p → Rd H p (.dK kvs) → kvs.map (·.1) = ks.map tk → Rels g ρ H xs (kvs.map (·.2)) → ((keyOf a).map fun k => (look k ks xs).isSome) = some k →
        wpAny (model X.prog X.w) X.A (compareOp (if neg then .NotIn else .In) v u) (EP X pins σ Q) X.xe s := by
      intro ks xs p kvs e hd hk hr hi
      subst e
      cases ry
      cases qk : keyOf a with
      | none => rw [qk] at hi; cases hi
      | some kk =>
        rw [qk] at hi
        simp only [Option.map_some, Option.some.injEq] at hi
        obtain ⟨ev, _⟩ := key_sd ra qk
        subst ev
        have dg : DGet H p (kV (tk kk)) (valV kvs (tk kk)) := .inl ⟨kvs, tk kk, hd, rfl, rfl⟩
        rw [Rels.keys hk hr] at hi
        have ok2 : ∀ s', Inv X pins σ H s' → EP X pins σ Q (.bool (if neg then !k else k)) s' := fun s' I' => ⟨.bl _, H, I', rfl, fin _ rel_bl⟩
        cases neg with
        | true => exact d_notIn (by omega) I dg rx fun s' I' => by rw [hi]; exact ok2 s' I'
        | false => exact d_in (by omega) I dg rx fun s' I' => by rw [hi]; exact ok2 s' I'
    cases b with
    | str z =>
      simp only [isinV] at hk
      split at hk
      · rename_i c
        simp only [Option.some.injEq] at hk
        simp only [Rel] at ra rb
        obtain ⟨rfl, _⟩ := ra
        obtain ⟨rfl, _⟩ := rb
        have ok3 : Q (.bl (if neg then !k else k)) H := fin _ rel_bl
        have ex : tx [c] = ⟨#[c]⟩ := rfl
        rw [ex] at rx
        cases neg with
        | true => exact op_notIn_sign pins s σ H _ _ v u Q I rx ry ⟨c, tx z, rfl, rfl, by rw [tx_list, hk]; exact ok3⟩
        | false => exact op_in_sign pins s σ H _ _ v u Q I rx ry ⟨c, tx z, rfl, rfl, by rw [tx_list, hk]; exact ok3⟩
      · cases hk
    | tup xs =>
      obtain ⟨p, vs, e, h1, _, h2⟩ := tup_sd rb
      exact sq xs p vs e h2 (.inr (hK ▸ h1)) hk
    | lst xs =>
      obtain ⟨p, vs, e, h1, _, h2⟩ := asL_sd w rb rfl
      exact sq xs p vs e h2 (.inl (hK ▸ h1)) hk
    | dct ks xs =>
      obtain ⟨p, kvs, e, h1, _, ⟨h2, _⟩, h3⟩ := asD_sd w rb rfl
      exact dd ks xs p kvs e h1 h2 h3 hk
    | loc n =>
      simp only [isinV] at hk
      cases qn : st[n]? with
      | none => rw [qn] at hk; cases hk
      | some ob =>
        rw [qn] at hk
        cases ob with
        | lst xs =>
          obtain ⟨p, vs, e, h1, _, h2⟩ := asL_sd w rb (xs := xs) (by simp [asL, qn])
          exact sq xs p vs e h2 (.inl (hK ▸ h1)) hk
        | dct ks xs =>
          obtain ⟨p, kvs, e, h1, _, ⟨h2, _⟩, h3⟩ := asD_sd w rb (p := (ks, xs)) (by simp [asD, qn])
          exact dd ks xs p kvs e h1 h2 h3 hk
        | ins _ _ _ => cases hk
        | dead => cases hk
    | _ => simp [isinV] at hk

theorem lt_ltT : ∀ (a b : Txt), decide (a < b) = ltT a b
  | [], [] => by simp [ltT]
  | [], _ :: _ => by simp [ltT]
  | _ :: _, [] => by simp [ltT]
  | a :: as, b :: bs => by
    rw [ltT, ← lt_ltT as bs]
    by_cases h1 : a < b
    · rw [if_pos h1, decide_eq_true_iff, List.cons_lt_cons_iff]
      exact .inl h1
    · rw [if_neg h1]
      by_cases h2 : b < a
      · rw [if_pos h2, decide_eq_false_iff_not, List.cons_lt_cons_iff]
        omega
      · rw [if_neg h2]
        have : a = b := by omega
        subst this
        congr 1
        rw [List.cons_lt_cons_iff]
        simp
theorem neF {s : Shared} {g : Gd} {ρ : List Addr} {H : Hp} {x y : Val} {vx vy : V} {v u : Value} (hx : Rel g ρ H x vx) (hy : Rel g ρ H y vy) (rv : RelV vx v) (ru : RelV vy u) (fx : flat x = true) (fy : flat y = true) (A : Around) : RcNeAt A s v u (!eqf x y) := by
  rcases flat_sd hx fx with ⟨b, rfl, rfl⟩ | ⟨b, rfl, rfl⟩ | ⟨b, rfl, rfl⟩ | ⟨rfl, rfl⟩
  · cases rv
    rcases flat_sd hy fy with ⟨c, rfl, rfl⟩ | ⟨c, rfl, rfl⟩ | ⟨c, rfl, rfl⟩ | ⟨rfl, rfl⟩
    · cases ru; exact RcNeAt.bool_bool _ _
    · obtain ⟨t', rfl⟩ := ru; exact RcNeAt.bool_int _ _ _
    · obtain ⟨t', rfl⟩ := ru; exact RcNeAt.bool_str _ _ _
    · cases ru; exact RcNeAt.bool_none _
  · obtain ⟨t, rfl⟩ := rv
    rcases flat_sd hy fy with ⟨c, rfl, rfl⟩ | ⟨c, rfl, rfl⟩ | ⟨c, rfl, rfl⟩ | ⟨rfl, rfl⟩
    · cases ru; exact RcNeAt.int_bool _ _ _
    · obtain ⟨t', rfl⟩ := ru; exact RcNeAt.int_int _ _ _ _
    · obtain ⟨t', rfl⟩ := ru; exact RcNeAt.int_str _ _ _ _
    · cases ru; exact RcNeAt.int_none _ _
  · obtain ⟨t, rfl⟩ := rv
    rcases flat_sd hy fy with ⟨c, rfl, rfl⟩ | ⟨c, rfl, rfl⟩ | ⟨c, rfl, rfl⟩ | ⟨rfl, rfl⟩
    · cases ru; exact RcNeAt.str_bool _ _ _
    · obtain ⟨t', rfl⟩ := ru; exact RcNeAt.str_int _ _ _ _
    · obtain ⟨t', rfl⟩ := ru; show RcNeAt A s _ _ (!(b == c)); rw [← beq_tx]; exact RcNeAt.str_str _ _ _ _
    · cases ru; exact RcNeAt.str_none _ _
  · cases rv
    rcases flat_sd hy fy with ⟨c, rfl, rfl⟩ | ⟨c, rfl, rfl⟩ | ⟨c, rfl, rfl⟩ | ⟨rfl, rfl⟩
    · cases ru; exact RcNeAt.none_bool _
    · obtain ⟨t', rfl⟩ := ru; exact RcNeAt.none_int _ _
    · obtain ⟨t', rfl⟩ := ru; exact RcNeAt.none_str _ _
    · cases ru; exact RcNeAt.none_none
theorem opC (hK : X.K = g.K) (hu : X.A.units + 64 < cLine) (o : CO) : OpR X (compareOp (co o)) (R2v g fun st a b => (cmpV st o a b).map .bl) := by
  cases o with
  | isin =>
    intro pins s σ H x y v u Q I rx ry h
    refine opIn hK hu false pins s σ H x y v u Q I rx ry ?_
    obtain ⟨ρ, st, a, b, z, w, ra, rb, hz, q⟩ := h
    exact ⟨ρ, st, a, b, z, w, ra, rb, by simpa [cmpV] using hz, q⟩
  | notin =>
    intro pins s σ H x y v u Q I rx ry h
    refine opIn hK hu true pins s σ H x y v u Q I rx ry ?_
    obtain ⟨ρ, st, a, b, z, w, ra, rb, hz, q⟩ := h
    refine ⟨ρ, st, a, b, z, w, ra, rb, ?_, q⟩
    simp only [cmpV, Option.map_map] at hz
    rw [← hz]; rfl
  | eq =>
    intro pins s σ H x y v u Q I rx ry h
    obtain ⟨ρ, st, a, b, z, w, ra, rb, hz, q⟩ := h
    simp only [cmpV] at hz
    cases qe : eqv st 60 a b with
    | none => rw [qe] at hz; cases hz
    | some k =>
      rw [qe] at hz
      cases hz
      exact (eqA I hK w 60 a b x y v u k ra rb rx ry qe X.A (by omega)).2 X.xe _ ⟨.bl k, H, I, rfl, q ρ H Ext.refl w _ rel_bl⟩
  | ne =>
    intro pins s σ H x y v u Q I rx ry h
    obtain ⟨ρ, st, a, b, z, w, ra, rb, hz, q⟩ := h
    have fin : ∀ V, Rel g ρ H z V → Q V H := fun V r => q ρ H Ext.refl w V r
    simp only [cmpV, neV] at hz
    cases q1 : view st a with
    | none => rw [q1] at hz; cases hz
    | some S1 =>
      cases q2 : view st b with
      | none => rw [q1, q2] at hz; cases S1 <;> cases hz
      | some S2 =>
        rw [q1, q2] at hz
        have el : ∀ (xs ys : List Val) (vs us : List L2.V) (is js : List Value) (e : Nat → Bool), Rels g ρ H xs vs → Rels g ρ H ys us → Vals vs is → Vals us js →
            (∀ (j : Nat) x y, xs[j]? = some x → ys[j]? = some y → eqv st 59 x y = some (e j)) → ∀ j (h1 : j < is.toArray.size) (h2 : j < js.toArray.size), EqP X.prog X.w X.A.in1 s is.toArray[j] js.toArray[j] (e j) := fun xs ys vs us is js e r1 r2 v1 v2 he j h1 h2 => by
          have l1 := v1.length
          have l2 := v2.length
          simp at h1 h2
          obtain ⟨a1, ha1⟩ : ∃ a, vs[j]? = some a := ⟨_, List.getElem?_eq_getElem (by omega)⟩
          obtain ⟨a2, ha2⟩ : ∃ a, us[j]? = some a := ⟨_, List.getElem?_eq_getElem (by omega)⟩
          obtain ⟨z1, hz1, q1⟩ := r1.getV ha1
          obtain ⟨z2, hz2, q2⟩ := r2.getV ha2
          obtain ⟨c1, hc1, p1⟩ := v1.get ha1
          obtain ⟨c2, hc2, p2⟩ := v2.get ha2
          have e1 : is[j] = c1 := by simpa [h1] using hc1
          have e2 : js[j] = c2 := by simpa [h2] using hc2
          simp only [List.getElem_toArray]
          rw [e1, e2]
          exact (eqA I hK w 59 z1 z2 a1 a2 c1 c2 (e j) q1 q2 p1 p2 (he j z1 z2 hz1 hz2) X.A.in1 (by show X.A.units + 1 + 59 < cLine; omega)).1
        have h1 := view_sd w ra q1
        have h2 := view_sd w rb q2
        cases S1 with
        | flt =>
          cases S2 with
          | flt =>
            simp only [Option.map_some, Option.some.injEq] at hz
            subst hz
            exact neF ra rb rx ry (view_flt q1) (view_flt q2) X.A X.prog X.w X.xe _ ⟨.bl _, H, I, rfl, fin _ rel_bl⟩
          | _ => cases hz
        | tup xs =>
          cases S2 with
          | tup ys =>
            obtain ⟨p1, vs, rfl, k1, r1⟩ := h1
            obtain ⟨p2, us, rfl, k2, r2⟩ := h2
            cases rx
            cases ry
            obtain ⟨is, v1, t1, _⟩ := I.tuple (a := p1) (hK ▸ sqT_of k1)
            obtain ⟨js, v2, t2, _⟩ := I.tuple (a := p2) (hK ▸ sqT_of k2)
            have l1 := v1.length
            have l2 := v2.length
            have l3 := r1.length
            have l4 := r2.length
            dsimp only at hz
            cases qe : eqz (eqv st 59) xs ys with
            | none => rw [qe] at hz; cases hz
            | some b =>
              rw [qe] at hz
              simp only [Option.map_some, Option.some.injEq] at hz
              obtain ⟨e, he, hb⟩ := eqz_all xs ys b qe
              have rc := rnP_tuples (P := X.prog) (W := X.w) (A := X.A) (f := e) t1 t2 (by omega) (el xs ys vs us is js e r1 r2 v1 v2 he)
              refine rc X.xe _ ⟨.bl _, H, I, rfl, ?_⟩
              have : (!((List.range (min is.toArray.size js.toArray.size)).all e && is.toArray.size == js.toArray.size)) = !(b && xs.length == ys.length) := by
                rw [hb]
                have e1 : is.toArray.size = xs.length := by simp; omega
                have e2 : js.toArray.size = ys.length := by simp; omega
                rw [e1, e2]
              rw [this]
              subst hz
              exact fin _ rel_bl
          | _ => cases hz
        | lst xs =>
          cases S2 with
          | lst ys =>
            obtain ⟨p1, vs, rfl, k1, r1⟩ := h1
            obtain ⟨p2, us, rfl, k2, r2⟩ := h2
            cases rx
            cases ry
            obtain ⟨is, v1, t1, _⟩ := I.list (a := p1) (hK ▸ k1)
            obtain ⟨js, v2, t2, _⟩ := I.list (a := p2) (hK ▸ k2)
            have l1 := v1.length
            have l2 := v2.length
            have l3 := r1.length
            have l4 := r2.length
            dsimp only at hz
            split at hz
            · rename_i hl
              cases qe : eqz (eqv st 59) xs ys with
              | none => rw [qe] at hz; cases hz
              | some b =>
                rw [qe] at hz
                simp only [Option.map_some, Option.some.injEq] at hz
                obtain ⟨e, he, hb⟩ := eqz_all xs ys b qe
                have rc := rnP_lists (P := X.prog) (W := X.w) (A := X.A) (f := e) t1.isList t2.isList (by simp; omega) (by omega) (el xs ys vs us is js e r1 r2 v1 v2 he)
                refine rc X.xe _ ⟨.bl _, H, I, rfl, ?_⟩
                have : (!((List.range is.toArray.size).all e)) = !b := by
                  rw [hb]; simp; congr 2; omega
                rw [this]
                subst hz
                exact fin _ rel_bl
            · rename_i hl
              simp only [Option.map_some, Option.some.injEq] at hz
              subst hz
              exact RcNeAt.lists_lengths (A := X.A) t1.isList t2.isList (by simp; omega) (by omega) X.prog X.w X.xe _ ⟨.bl true, H, I, rfl, fin _ rel_bl⟩
          | _ => cases hz
        | dct ks xs => cases hz
  | lt =>
    intro pins s σ H x y v u Q I rx ry h
    obtain ⟨ρ, st, a, b, z, w, ra, rb, hz, q⟩ := h
    have fin : ∀ V, Rel g ρ H z V → Q V H := fun V r => q ρ H Ext.refl w V r
    cases a <;> cases b <;> simp only [cmpV, Option.map_some, Option.map_none, reduceCtorEq, Option.some.injEq] at hz
    · subst hz; simp only [Rel] at ra rb; subst ra; subst rb
      exact op_lt pins s σ H _ _ v u Q I rx ry ⟨_, _, rfl, rfl, fin _ rel_bl⟩
    · subst hz; simp only [Rel] at ra rb; obtain ⟨rfl, _⟩ := ra; obtain ⟨rfl, _⟩ := rb
      exact op_lt_str pins s σ H _ _ v u Q I rx ry ⟨_, _, rfl, rfl, by rw [tx_list, tx_list, lt_ltT]; exact fin _ rel_bl⟩
  | le =>
    intro pins s σ H x y v u Q I rx ry h
    obtain ⟨ρ, st, a, b, z, w, ra, rb, hz, q⟩ := h
    have fin : ∀ V, Rel g ρ H z V → Q V H := fun V r => q ρ H Ext.refl w V r
    cases a <;> cases b <;> simp only [cmpV, Option.map_some, Option.map_none, reduceCtorEq, Option.some.injEq] at hz
    · subst hz; simp only [Rel] at ra rb; subst ra; subst rb
      exact op_le pins s σ H _ _ v u Q I rx ry ⟨_, _, rfl, rfl, fin _ rel_bl⟩
    · subst hz; simp only [Rel] at ra rb; obtain ⟨rfl, _⟩ := ra; obtain ⟨rfl, _⟩ := rb
      exact op_le_str pins s σ H _ _ v u Q I rx ry ⟨_, _, rfl, rfl, by rw [tx_list, tx_list, lt_ltT]; exact fin _ rel_bl⟩
  | gt =>
    intro pins s σ H x y v u Q I rx ry h
    obtain ⟨ρ, st, a, b, z, w, ra, rb, hz, q⟩ := h
    have fin : ∀ V, Rel g ρ H z V → Q V H := fun V r => q ρ H Ext.refl w V r
    cases a <;> cases b <;> simp only [cmpV, Option.map_some, Option.map_none, reduceCtorEq, Option.some.injEq] at hz
    · subst hz; simp only [Rel] at ra rb; subst ra; subst rb
      exact op_gt pins s σ H _ _ v u Q I rx ry ⟨_, _, rfl, rfl, fin _ rel_bl⟩
    · subst hz; simp only [Rel] at ra rb; obtain ⟨rfl, _⟩ := ra; obtain ⟨rfl, _⟩ := rb
      exact op_gt_str pins s σ H _ _ v u Q I rx ry ⟨_, _, rfl, rfl, by rw [tx_list, tx_list, lt_ltT]; exact fin _ rel_bl⟩
  | ge =>
    intro pins s σ H x y v u Q I rx ry h
    obtain ⟨ρ, st, a, b, z, w, ra, rb, hz, q⟩ := h
    have fin : ∀ V, Rel g ρ H z V → Q V H := fun V r => q ρ H Ext.refl w V r
    cases a <;> cases b <;> simp only [cmpV, Option.map_some, Option.map_none, reduceCtorEq, Option.some.injEq] at hz
    · subst hz; simp only [Rel] at ra rb; subst ra; subst rb
      exact op_ge pins s σ H _ _ v u Q I rx ry ⟨_, _, rfl, rfl, fin _ rel_bl⟩
    · subst hz; simp only [Rel] at ra rb; obtain ⟨rfl, _⟩ := ra; obtain ⟨rfl, _⟩ := rb
      exact op_ge_str pins s σ H _ _ v u Q I rx ry ⟨_, _, rfl, rfl, by rw [tx_list, tx_list, lt_ltT]; exact fin _ rel_bl⟩
end
end Mi
namespace Mi
open PySem L2 PySem.SeqAt

/-! the order of texts -/
theorem ltT_irrefl : ∀ a : Txt, ltT a a = false
  | [] => rfl
  | a :: as => by simp [ltT, ltT_irrefl as]
theorem ltT_trans : ∀ {a b c : Txt}, ltT a b = true → ltT b c = true → ltT a c = true
  | [], [], c, h, _ => by simp [ltT] at h
  | [], b :: bs, [], _, h => by simp [ltT] at h
  | [], b :: bs, c :: cs, _, _ => rfl
  | a :: as, [], c, h, _ => by simp [ltT] at h
  | a :: as, b :: bs, [], _, h => by simp [ltT] at h
  | a :: as, b :: bs, c :: cs, h1, h2 => by
    simp only [ltT] at h1 h2 ⊢
    by_cases x1 : a < b
    · by_cases x2 : b < c
      · rw [if_pos (by omega)]
      · rw [if_neg x2] at h2
        by_cases x3 : c < b
        · rw [if_pos x3] at h2; cases h2
        · rw [if_pos (by omega)]
    · rw [if_neg x1] at h1
      by_cases x4 : b < a
      · rw [if_pos x4] at h1; cases h1
      · rw [if_neg x4] at h1
        by_cases x2 : b < c
        · rw [if_pos (by omega)]
        · rw [if_neg x2] at h2
          by_cases x3 : c < b
          · rw [if_pos x3] at h2; cases h2
          · rw [if_neg x3] at h2
            rw [if_neg (by omega), if_neg (by omega)]
            exact ltT_trans h1 h2
theorem ltT_tri : ∀ {a b : Txt}, ltT a b = false → ltT b a = false → a = b
  | [], [], _, _ => rfl
  | [], b :: bs, h, _ => by simp [ltT] at h
  | a :: as, [], _, h => by simp [ltT] at h
  | a :: as, b :: bs, h1, h2 => by
    simp only [ltT] at h1 h2
    by_cases x1 : a < b
    · rw [if_pos x1] at h1; cases h1
    · by_cases x2 : b < a
      · rw [if_pos x2] at h2; cases h2
      · rw [if_neg x1, if_neg x2] at h1
        rw [if_neg x2, if_neg x1] at h2
        rw [show a = b by omega, ltT_tri h1 h2]
theorem ltT_asymm {a b : Txt} (h : ltT a b = true) : ltT b a = false := by
  cases q : ltT b a with
  | false => rfl
  | true =>
    have := ltT_trans h q
    rw [ltT_irrefl] at this; cases this
theorem ltT_le {a b c : Txt} (h1 : ltT b a = false) (h2 : ltT c b = false) : ltT c a = false := by
  cases q : ltT c a with
  | false => rfl
  | true =>
    cases q2 : ltT a b with
    | true => rw [ltT_trans q q2] at h2; cases h2
    | false =>
      have := ltT_tri q2 h1
      subst this
      rw [q] at h2; cases h2
theorem ltT_cps : ∀ a b : Txt, Spec.ltCps a b = ltT a b
  | [], [] => rfl
  | [], _ :: _ => rfl
  | _ :: _, [] => rfl
  | a :: as, b :: bs => by
    simp only [Spec.ltCps, ltT, ltT_cps as bs]
    by_cases h1 : a < b
    · simp [h1]
    · by_cases h2 : b < a
      · have : ¬ a = b := by omega
        simp [h1, h2, this]
      · have : a = b := by omega
        subst this
        simp
def LeT (a b : Txt) : Prop := ltT b a = false
theorem insT_perm (x : Txt) : ∀ l : List Txt, (insT x l).Perm (x :: l)
  | [] => .refl _
  | y :: ys => by
    unfold insT
    split
    · exact ((insT_perm x ys).cons y).trans (.swap ..)
    · exact .refl _
theorem sortT_perm : ∀ l : List Txt, (sortT l).Perm l
  | [] => .refl _
  | x :: xs => (insT_perm x _).trans ((sortT_perm xs).cons x)
theorem insT_sorted (x : Txt) : ∀ {l : List Txt}, l.Pairwise LeT → (insT x l).Pairwise LeT
  | [], _ => by simp [insT]
  | y :: ys, h => by
    obtain ⟨h1, h2⟩ := List.pairwise_cons.mp h
    unfold insT
    split
    · rename_i q
      refine List.pairwise_cons.mpr ⟨fun z hz => ?_, insT_sorted x h2⟩
      rcases List.mem_cons.mp ((insT_perm x ys).mem_iff.mp hz) with rfl | hz
      · exact ltT_asymm q
      · exact h1 z hz
    · rename_i q
      have q : ltT y x = false := by simpa using q
      refine List.pairwise_cons.mpr ⟨fun z hz => ?_, h⟩
      rcases List.mem_cons.mp hz with rfl | hz
      · exact q
      · exact ltT_le q (h1 z hz)
theorem sortT_sorted : ∀ l : List Txt, (sortT l).Pairwise LeT
  | [] => List.Pairwise.nil
  | x :: xs => insT_sorted x (sortT_sorted xs)
theorem sort_uniq {a b : List Txt} (h1 : a.Pairwise LeT) (h2 : b.Pairwise LeT) (p : a.Perm b) : a = b :=
  List.Perm.eq_of_pairwise (fun x y _ _ h k => ltT_tri k h) h1 h2 p
theorem rising_sorted : ∀ (l : List Txt) (x : Txt), PyProof.Rows.risingS (tx x) (l.map tx) = true → (x :: l).Pairwise LeT
  | [], x, _ => by simp
  | y :: l, x, h => by
    simp only [List.map_cons, PyProof.Rows.risingS, Bool.and_eq_true, Bool.not_eq_true', tx_list, ltT_cps] at h
    have ih := rising_sorted l y h.2
    refine List.pairwise_cons.mpr ⟨fun z hz => ?_, ih⟩
    rcases List.mem_cons.mp hz with rfl | hz
    · exact h.1
    · exact ltT_le h.1 ((List.pairwise_cons.mp ih).1 z hz)
theorem sortedS_sorted {l : List Txt} (h : PyProof.Rows.sortedS (l.map tx) = true) : l.Pairwise LeT := by
  cases l with
  | nil => exact List.Pairwise.nil
  | cons x l => exact rising_sorted l x h
theorem map_tx_inv : ∀ ys : List Str, (ys.map fun y => tx y.cps.toList) = ys
  | [] => rfl
  | y :: ys => by rw [List.map_cons, tx_of, map_tx_inv ys]
/-- what sorted gives -/
theorem sorted_is {ts : List Txt} {ys : List Str} (p : ys.Perm (ts.map tx)) (h : PyProof.Rows.sortedS ys = true) : ys = (sortT ts).map tx := by
  have e : ys = (ys.map fun y => y.cps.toList).map tx := by rw [List.map_map]; exact (map_tx_inv ys).symm
  rw [e] at h ⊢
  congr 1
  refine sort_uniq (sortedS_sorted h) (sortT_sorted ts) ?_
  have p2 := p.map (fun y : Str => y.cps.toList)
  rw [List.map_map] at p2
  have e2 : (ts.map ((fun y : Str => y.cps.toList) ∘ tx)) = ts := by
    rw [show ((fun y : Str => y.cps.toList) ∘ tx) = id from funext fun t => tx_list t]; simp
  rw [e2] at p2
  exact p2.trans (sortT_perm ts).symm
theorem sortT_len (l : List Txt) : (sortT l).length = l.length := (sortT_perm l).length_eq
theorem insU_mem (x : Txt) : ∀ (l : List Txt) (z : Txt), z ∈ insU x l ↔ z = x ∨ z ∈ l
  | [], z => by simp [insU]
  | y :: ys, z => by
    unfold insU
    split
    · rw [List.mem_cons, insU_mem x ys z, List.mem_cons]
      constructor <;> (rintro (h | h | h) <;> simp [h])
    · split
      · simp
      · rename_i q1 q2
        have e : y = x := ltT_tri (by simpa using q1) (by simpa using q2)
        subst e
        simp
theorem sortU_mem : ∀ (l : List Txt) (z : Txt), z ∈ sortU l ↔ z ∈ l
  | [], z => by simp [sortU]
  | x :: xs, z => by rw [sortU, insU_mem, sortU_mem xs z, List.mem_cons]
def LtT (a b : Txt) : Prop := ltT a b = true
theorem insU_sorted (x : Txt) : ∀ {l : List Txt}, l.Pairwise LtT → (insU x l).Pairwise LtT
  | [], _ => by simp [insU]
  | y :: ys, h => by
    obtain ⟨h1, h2⟩ := List.pairwise_cons.mp h
    unfold insU
    split
    · rename_i q
      refine List.pairwise_cons.mpr ⟨fun z hz => ?_, insU_sorted x h2⟩
      rcases (insU_mem x ys z).mp hz with rfl | hz
      · exact q
      · exact h1 z hz
    · split
      · rename_i q
        refine List.pairwise_cons.mpr ⟨fun z hz => ?_, h⟩
        rcases List.mem_cons.mp hz with rfl | hz
        · exact q
        · exact ltT_trans q (h1 z hz)
      · exact h
theorem sortU_sorted : ∀ l : List Txt, (sortU l).Pairwise LtT
  | [] => List.Pairwise.nil
  | x :: xs => insU_sorted x (sortU_sorted xs)
theorem lt_le {l : List Txt} (h : l.Pairwise LtT) : l.Pairwise LeT := h.imp fun h => ltT_asymm h
theorem lt_nodup {l : List Txt} (h : l.Pairwise LtT) : l.Nodup := h.imp fun {a b} h e => by
  subst e
  rw [LtT, ltT_irrefl] at h; cases h
theorem insU_len (x : Txt) : ∀ l : List Txt, (insU x l).length ≤ l.length + 1
  | [] => by simp [insU]
  | y :: ys => by
    unfold insU
    split
    · simpa using insU_len x ys
    · split <;> simp
theorem sortU_len : ∀ l : List Txt, (sortU l).length ≤ l.length
  | [] => by simp [sortU]
  | x :: xs => by
    have h1 := insU_len x (sortU xs)
    have h2 := sortU_len xs
    rw [sortU, List.length_cons]
    exact Nat.le_trans h1 (by omega)
end Mi
namespace Mi
open PySem L2 PySem.SeqAt

section
variable {X : Cx} {g : Gd}
theorem Rels.at {ρ : List Addr} {H : Hp} {xs : List Val} {vs : List V} {i : Int} {x : Val} (h : Rels g ρ H xs vs) (e : atI xs i = some x) : ∃ v, atI vs i = some v ∧ Rel g ρ H x v := by
  unfold atI at e ⊢
  rw [← h.length]
  cases q : ixN xs.length i with
  | none => rw [q] at e; cases e
  | some j =>
    rw [q] at e
    exact h.get e
theorem sub_tail {value slice : Expr} {o i : Value} {T id : String} {A : Around} {E : Value → Shared → Prop} {s : Shared} {P : Program} {w : World} {Q : Value → Shared → Prop} (hT : s.TypeIs o T) (hl : typeLookup (.type T) "__getitem__" = pure (some (.builtin id)))
    (h : wpAny (model P w) A (getItem o i) Q E s) (hs : subscripted slice false o i = operate [o, i] (getItem o i)) : wpAny (model P w) A (PyProof.Rows.subscriptTail value slice o i) Q E s := by
  unfold PyProof.Rows.subscriptTail; refine wpAny_bind ?_; rw [getitemInPython_of_ne hT.not_modules]; refine wpAny_bind (wpAny_specialOf hT hl ?_)
  have k : wpAny (model P w) A (subscripted slice false o i) (fun r s2 => wpAny (model P w) A (letTemporaryGo value o r >>= fun _ => pure r) Q E s2) E s := by
    rw [hs]; exact wpAny_operating (wpAny_mono h (fun r s2 h2 => wpAny_bind (wpAny_letTemporaryGo (wpAny_pure h2))) fun _ _ x => x)
  first | exact wpAny_pure (wpAny_bind k) | exact wpAny_bind (wpAny_pure (wpAny_bind k)) | exact wpAny_bind k
theorem ix_dict (hu : X.A.units + 1 < cLine) : IxR X (fun x y H Q => ∃ a v, x = .ref a ∧ DGet H a y (some v) ∧ Q v H) := by
  intro value slice pins s σ H x y v u Q I rx ry h hs
  obtain ⟨a, z, rfl, hd, q⟩ := h
  cases rx
  exact sub_tail (dict_typeIs I hd) PySem.F.slot_dict_getitem.lookup (d_getItem hu I hd ry fun r s1 I1 rr => ⟨z, H, I1, rr, q⟩) hs
theorem opX (hK : X.K = g.K) (hu : X.A.units + 64 < cLine) : IxR X (R2v g ixV) := by
  intro value slice pins s σ H x y v u Q I rx ry h hs
  obtain ⟨ρ, st, a, b, z, w, ra, rb, hz, q⟩ := h
  have fin : ∀ V, Rel g ρ H z V → Q V H := fun V r => q ρ H Ext.refl w V r
  have ls : ∀ (xs : List Val) (p : Addr) (vs : List V) (i : Int), x = .ref p → SqL g.K H p vs → Rels g ρ H xs vs → y = .int i → atI xs i = some z → wpAny (model X.prog X.w) X.A (PyProof.Rows.subscriptTail value slice v u) (EP X pins σ Q) X.xe s := by
    intro xs p vs i e1 h1 h2 e2 h3
    obtain ⟨zv, hv, rz⟩ := h2.at h3
    exact ix_list value slice pins s σ H x y v u Q I rx ry ⟨p, vs, i, zv, e1, e2, hK ▸ h1, hv, fin _ rz⟩ hs
  have dd : ∀ (ks : List Txt) (xs : List Val) (p : Addr) (kvs : List (Key × V)), x = .ref p → Rd H p (.dK kvs) → kvs.map (·.1) = ks.map tk → Rels g ρ H xs (kvs.map (·.2)) → ((keyOf b).bind fun k => look k ks xs) = some z →
      wpAny (model X.prog X.w) X.A (PyProof.Rows.subscriptTail value slice v u) (EP X pins σ Q) X.xe s := by
    intro ks xs p kvs e1 h1 h2 h3 h4
    cases qk : keyOf b with
    | none => rw [qk] at h4; cases h4
    | some k =>
      rw [qk] at h4
      obtain ⟨zv, hv, rz⟩ := look_sd h4 h2 h3
      obtain ⟨ev, _⟩ := key_sd rb qk
      exact ix_dict (by omega) value slice pins s σ H x y v u Q I rx ry ⟨p, zv, e1, by rw [ev, ← hv]; exact .inl ⟨kvs, tk k, h1, rfl, rfl⟩, fin _ rz⟩ hs
  cases a with
  | tup xs =>
    cases b with
    | int i =>
      simp only [ixV] at hz
      obtain ⟨p, vs, rfl, h1, _, h2⟩ := tup_sd ra
      simp only [Rel] at rb; subst rb
      obtain ⟨zv, hv, rz⟩ := h2.at hz
      exact ix_tup value slice pins s σ H _ _ v u Q I rx ry ⟨p, vs, i, zv, rfl, rfl, hK ▸ h1, hv, fin _ rz⟩ hs
    | _ => simp [ixV] at hz
  | str t =>
    cases b with
    | int i =>
      simp only [ixV] at hz
      cases qa : atI t i with
      | none => rw [qa] at hz; cases hz
      | some c =>
        rw [qa] at hz
        cases hz
        simp only [Rel] at ra rb; subst rb; obtain ⟨rfl, hl⟩ := ra
        exact ix_str value slice pins s σ H _ _ v u Q I rx ry ⟨tx t, i, c, rfl, rfl, by rw [tx_len]; exact hl, by rw [tx_list]; exact qa, fin _ (rel_str (x := [c]) (show 1 ≤ sizeLine by decide))⟩ hs
    | _ => simp [ixV] at hz
  | lst xs =>
    cases b with
    | int i =>
      simp only [ixV] at hz
      obtain ⟨p, vs, e, h1, _, h2⟩ := asL_sd w ra rfl
      simp only [Rel] at rb
      exact ls xs p vs i e h1 h2 rb hz
    | _ => simp [ixV] at hz
  | dct ks xs =>
    simp only [ixV] at hz
    obtain ⟨p, kvs, e, h1, _, ⟨h2, _⟩, h3⟩ := asD_sd w ra rfl
    exact dd ks xs p kvs e h1 h2 h3 hz
  | loc n =>
    simp only [ixV] at hz
    cases qn : st[n]? with
    | none => rw [qn] at hz; cases hz
    | some ob =>
      rw [qn] at hz
      cases ob with
      | lst xs =>
        obtain ⟨p, vs, e, h1, _, h2⟩ := asL_sd w ra (xs := xs) (by simp [asL, qn])
        cases b with
        | int i => simp only [Rel] at rb; exact ls xs p vs i e h1 h2 rb hz
        | _ => simp at hz
      | dct ks xs =>
        obtain ⟨p, kvs, e, h1, _, ⟨h2, _⟩, h3⟩ := asD_sd w ra (p := (ks, xs)) (by simp [asD, qn])
        exact dd ks xs p kvs e h1 h2 h3 hz
      | ins _ _ _ => cases hz
      | dead => cases hz
  | _ => simp [ixV] at hz

/-! built-ins -/
def RCv (g : Gd) (f : Store → List Val → Option Val) : List V → Hp → VK → Prop := fun vs H Q => ∃ ρ st as v, Wd g ρ st H ∧ Rels g ρ H as vs ∧ f st as = some v ∧
  ∀ ρ' H', Ext ρ H ρ' H' → Wd g ρ' st H' → ∀ V, Rel g ρ' H' v V → Q V H'
theorem ints_sd {ρ : List Addr} {H : Hp} : ∀ {xs : List Val} {vs : List V} {ns : List Int}, Rels g ρ H xs vs → intsV xs = some ns → vs = ns.map V.int
  | [], vs, ns, h, e => by simp only [intsV, Option.some.injEq] at e; subst e; simp only [Rels] at h; exact h
  | x :: xs, vs, ns, h, e => by
    obtain ⟨v, r, rfl, h1, h2⟩ := h.cons_inv
    cases x <;> simp only [intsV, reduceCtorEq] at e
    cases q : intsV xs with
    | none => rw [q] at e; cases e
    | some ms =>
      rw [q] at e; cases e
      simp only [Rel] at h1
      rw [h1, ints_sd h2 q]; rfl
theorem strs_sd {ρ : List Addr} {H : Hp} : ∀ {xs : List Val} {vs : List V} {ns : List Txt}, Rels g ρ H xs vs → strsV xs = some ns → vs = ns.map fun t => V.str (tx t)
  | [], vs, ns, h, e => by simp only [strsV, Option.some.injEq] at e; subst e; simp only [Rels] at h; exact h
  | x :: xs, vs, ns, h, e => by
    obtain ⟨v, r, rfl, h1, h2⟩ := h.cons_inv
    cases x <;> simp only [strsV, reduceCtorEq] at e
    cases q : strsV xs with
    | none => rw [q] at e; cases e
    | some ms =>
      rw [q] at e; cases e
      simp only [Rel] at h1
      rw [h1.1, strs_sd h2 q]; rfl
theorem bls_sd {ρ : List Addr} {H : Hp} : ∀ {xs : List Val} {vs : List V} {ns : List Bool}, Rels g ρ H xs vs → blsV xs = some ns → vs = ns.map V.bl
  | [], vs, ns, h, e => by simp only [blsV, Option.some.injEq] at e; subst e; simp only [Rels] at h; exact h
  | x :: xs, vs, ns, h, e => by
    obtain ⟨v, r, rfl, h1, h2⟩ := h.cons_inv
    cases x <;> simp only [blsV, reduceCtorEq] at e
    cases q : blsV xs with
    | none => rw [q] at e; cases e
    | some ms =>
      rw [q] at e; cases e
      simp only [Rel] at h1
      rw [h1, bls_sd h2 q]; rfl
theorem one_sd {ρ : List Addr} {H : Hp} {x : Val} {vs : List V} (h : Rels g ρ H [x] vs) : ∃ v, vs = [v] ∧ Rel g ρ H x v := by
  obtain ⟨v, r, rfl, h1, h2⟩ := h.cons_inv
  simp only [Rels] at h2; subst h2
  exact ⟨v, rfl, h1⟩
theorem strs_len {ρ : List Addr} {H : Hp} : ∀ {xs : List Val} {vs : List V} {ns : List Txt}, Rels g ρ H xs vs → strsV xs = some ns → ∀ t ∈ ns, t.length ≤ sizeLine
  | [], vs, ns, h, e => by simp only [strsV, Option.some.injEq] at e; subst e; simp
  | x :: xs, vs, ns, h, e => by
    obtain ⟨v, r, rfl, h1, h2⟩ := h.cons_inv
    cases x <;> simp only [strsV, reduceCtorEq] at e
    cases q : strsV xs with
    | none => rw [q] at e; cases e
    | some ms =>
      rw [q] at e; cases e
      simp only [Rel] at h1
      intro t ht
      rcases List.mem_cons.mp ht with rfl | ht
      · exact h1.2
      · exact strs_len h2 q t ht
theorem strs_rel {ρ : List Addr} {H : Hp} : ∀ {ts : List Txt}, (∀ t ∈ ts, t.length ≤ sizeLine) → Rels g ρ H (ts.map .str) (ts.map (V.str ∘ tx))
  | [], _ => .nil
  | t :: ts, h => .cons (rel_str (h t List.mem_cons_self)) (strs_rel fun t' ht => h t' (List.mem_cons_of_mem _ ht))
theorem call_list_rd {X : Cx} (hc : X.calm = true) : CallR X (.type "list") (fun xs H Q => ∃ p kvs, xs = [.ref p] ∧ Rd H p (.dK kvs) ∧ ∀ q, H q = none → Q (.ref q) (upd H q (.lst (kvs.map fun kv => kV kv.1)))) := by
  intro pins s σ H xs us Q I r h
  obtain ⟨p, kvs, e, hk, q⟩ := h
  subst e
  obtain ⟨u, eu, rx⟩ := vals1 r
  subst eu
  obtain rfl : u = Value.ref p := rx
  obtain ⟨z, lo, vs, rk, hd⟩ := dk_rd I.hok hk
  obtain ⟨ep, hat⟩ := hd.dictAt
  have hl : kvs.length = vs.length := Paired.length rk
  refine PySem.W.kdl_call (PySem.W.kdl_dict (knd := mixKind X.prog X.w) (kvs := vs) (ep := ep) lo) (I.ok.hd hc) hat (by rw [← hl]; exact z) fun h' tk acc' c' hkeep hS hacc => ?_
  refine ⟨.ref s.heap.objs.size, upd H s.heap.objs.size (.lst (kvs.map fun kv => kV kv.1)), I.laid hkeep (Nat.le_refl _) (show ObjOk X.prog X.w _ _ _ (.lst (kvs.map fun kv => kV kv.1)) from ⟨?_, acc'.toList, c', ?_, ?_⟩), rfl, q _ (I.hok.fresh (Nat.le_refl _))⟩
  · rw [List.length_map]; exact z
  · have el : acc'.toList.length = acc'.size := by simp
    refine vals_of_at (by rw [List.length_map, el, hacc.1, hl]) fun j x w h1 h2 => ?_
    obtain ⟨k, y, hky, hi⟩ := hacc.2 j w (by rw [← Array.getElem?_toList]; exact h2)
    have e1 : (kvs.map (·.1))[j]? = some k := by
      rw [KV.keys rk, List.getElem?_map, hky] <;> rfl
    have e2 : (kvs.map fun kv => kV kv.1)[j]? = some (kV k) := by
      have e3 : (kvs.map fun kv => kV kv.1) = (kvs.map (·.1)).map kV := by rw [List.map_map] <;> rfl
      rw [e3, List.getElem?_map, e1] <;> rfl
    rw [e2] at h1
    cases h1
    exact keyIs_rel hi
  · rw [Array.toArray_toList]; exact hS
/-- list(x): a sequence, or a dict's keys -/
theorem list_of {ρ : List Addr} {st : Store} {H : Hp} {pins : List (Addr × Obj)} {σ : St} {s : Shared} {x : Val} {v : V} {us : List Value} {ys : List Val} {Q : VK} (hK : X.K = g.K) (hc : X.calm = true) (w : Wd g ρ st H) (h1 : Rel g ρ H x v) (e : listV st x = some ys)
    (I : Inv X pins σ H s) (r : Vals [v] us) (q : ∀ l vs, ys.length ≤ sizeLine → Rels g ρ H ys vs → H l = none → Q (.ref l) (upd H l (.lst vs))) : wpAny (model X.prog X.w) X.A (call (.type "list") us) (EP X pins σ Q) X.xe s := by
  unfold listV at e
  cases q1 : asS st x with
  | some xs =>
    rw [q1] at e
    cases e
    obtain ⟨a, vs, rfl, h2, h3, h4⟩ := asS_sd w h1 q1
    exact call_list_of pins s σ H _ us Q I r ⟨a, vs, rfl, by rw [hK]; exact h2, fun l hl => q l vs h3 h4 hl⟩
  | none =>
    rw [q1] at e
    cases q2 : asD st x with
    | none => rw [q2] at e; cases e
    | some p =>
      rw [q2] at e
      simp only [Option.map_some, Option.some.injEq] at e
      subst e
      obtain ⟨a, kvs, rfl, h2, h3, ⟨h4, hks⟩, h5⟩ := asD_sd w h1 q2
      refine call_list_rd hc pins s σ H _ us Q I r ⟨a, kvs, rfl, h2, fun l hl => ?_⟩
      have hl2 : p.1.length = kvs.length := by
        have := congrArg List.length h4
        simpa using this.symm
      have hl3 : p.2.length = kvs.length := by
        have := h5.length
        simpa using this
      have e3 : (kvs.map fun kv => kV kv.1) = p.1.map (V.str ∘ tx) := by
        have : (kvs.map fun kv => kV kv.1) = (kvs.map (·.1)).map kV := by rw [List.map_map]; rfl
        rw [this, h4, List.map_map]; rfl
      rw [e3]
      refine q l _ (by rw [List.length_map]; omega) (strs_rel fun t ht => hks t ht) hl
def foV : FO → Value
  | .len => .builtin "len" | .abs => .builtin "abs" | .sum => .builtin "sum" | .int => .type "int" | .str => .type "str" | .list => .type "list" | .tuple => .type "tuple"
  | .sorted => .builtin "sorted" | .all => .builtin "all" | .any => .builtin "any" | .max => .builtin "max" | .min => .builtin "min" | .dict => .type "dict" | .ssort => .none | .lset => .none

theorem opF (hK : X.K = g.K) (hc : X.calm = true) (hu : X.A.units + 64 < cLine) (f : FO) (hf : f ≠ .ssort) : CallR X (foV f) (RCv g fun st => fnV st f) := by
  intro pins s σ H xs us Q I r h
  obtain ⟨ρ, st, as, z, w, ra, hz, q⟩ := h
  have fin : ∀ V, Rel g ρ H z V → Q V H := fun V r => q ρ H Ext.refl w V r
  have ls : ∀ (x : Val) (ys : List Val), as = [x] → asL st x = some ys → ∃ a vs, xs = [.ref a] ∧ SqL X.K H a vs ∧ ys.length ≤ sizeLine ∧ Rels g ρ H ys vs := fun x ys e1 e2 => by
    subst e1
    obtain ⟨v, rfl, h1⟩ := one_sd ra
    obtain ⟨a, vs, rfl, h2, h3, h4⟩ := asL_sd w h1 e2
    exact ⟨a, vs, rfl, hK ▸ h2, h3, h4⟩
  cases f with
  | len =>
    simp only [fnV] at hz
    unfold lenV at hz
    split at hz
    · cases hz
      obtain ⟨v, rfl, h1⟩ := one_sd ra
      simp only [Rel] at h1
      obtain ⟨rfl, h1⟩ := h1
      exact call_len pins s σ H _ us Q I r ⟨_, _, rfl, ⟨by rw [tx_len]; exact h1, rfl⟩, by rw [tx_len]; exact fin _ rel_int⟩
    · rename_i x _
      obtain ⟨v, rfl, h1⟩ := one_sd ra
      split at hz
      · rename_i ys e
        cases hz
        obtain ⟨a, vs, rfl, h2, h3, h4⟩ := asS_sd w h1 e
        refine call_len_seq pins s σ H _ us Q I r ⟨a, vs, rfl, by rw [hK]; exact h2, ?_⟩
        rw [← h4.length]; exact fin _ rel_int
      · rename_i e
        cases qd : asD st x with
        | none => rw [qd] at hz; cases hz
        | some p =>
          rw [qd] at hz
          cases hz
          obtain ⟨a, kvs, rfl, h2, h3, h4, h5⟩ := asD_sd w h1 qd
          obtain ⟨u, rfl, hr⟩ := Vals.one r
          cases hr
          refine d_len I h2 fun t s' I' => ⟨.int kvs.length, H, I', ⟨t, rfl⟩, ?_⟩
          have := h5.length
          rw [List.length_map] at this
          rw [← this]; exact fin _ rel_int
    · cases hz
  | abs =>
    simp only [fnV] at hz
    split at hz
    · cases hz
      obtain ⟨v, rfl, h1⟩ := one_sd ra
      simp only [Rel] at h1; subst h1
      exact call_abs pins s σ H _ us Q I r ⟨_, rfl, fin _ rel_int⟩
    · cases hz
  | sum =>
    simp only [fnV] at hz
    split at hz
    · rename_i x
      cases q1 : asL st x with
      | none => rw [q1] at hz; cases hz
      | some ys =>
        rw [q1] at hz
        simp only [Option.bind_some] at hz
        cases q2 : intsV ys with
        | none => rw [q2] at hz; cases hz
        | some ns =>
          rw [q2] at hz; cases hz
          obtain ⟨a, vs, rfl, h2, h3, h4⟩ := ls x ys rfl q1
          exact cr_sum hc pins s σ H _ us Q I r ⟨a, ns, rfl, by rw [← ints_sd h4 q2]; exact h2, fin _ rel_int⟩
    · cases hz
  | int =>
    simp only [fnV] at hz
    split at hz
    · cases hz
      obtain ⟨v, rfl, h1⟩ := one_sd ra
      simp only [Rel] at h1; subst h1
      exact call_int1 pins s σ H _ us Q I r (.inl ⟨_, rfl, fin _ rel_int⟩)
    · cases hz
      obtain ⟨v, rfl, h1⟩ := one_sd ra
      simp only [Rel] at h1; subst h1
      exact call_int1 pins s σ H _ us Q I r (.inr ⟨_, rfl, fin _ rel_int⟩)
    · cases hz
  | list =>
    simp only [fnV] at hz
    split at hz
    · rename_i x
      cases q1 : listV st x with
      | none => rw [q1] at hz; cases hz
      | some ys =>
        rw [q1] at hz; cases hz
        obtain ⟨v, rfl, h1⟩ := one_sd ra
        exact thn (list_of hK hc w h1 q1 I r fun l us' h3 h4 hl => shL w h4 h3 q hl) fun _ _ z => EP.sh z
    · cases hz
  | str =>
    simp only [fnV] at hz
    split at hz
    · split at hz
      · rename_i i hi
        cases hz
        obtain ⟨v, rfl, h1⟩ := one_sd ra
        simp only [Rel] at h1; subst h1
        have e : tx (toS i) = ((toString i : String) : Str) := by
          show tx _ = Str.ofString _
          rw [Str.ofString_eq_toList]; rfl
        have hl := hi.2
        refine call_str_int pins s σ H _ us Q I r ⟨i, rfl, ?_, by rw [← e]; exact fin _ (rel_str hl)⟩
        by_cases h0 : i.natAbs = 0
        · rw [h0]; decide
        · have h2 := (Nat.log2_lt (n := i.natAbs) (k := 300) h0).mpr hi.1
          omega
      · cases hz
    · cases hz
  | sorted =>
    simp only [fnV] at hz
    split at hz
    · rename_i x
      cases q1 : asL st x with
      | none => rw [q1] at hz; cases hz
      | some ys =>
        rw [q1] at hz
        simp only [Option.bind_some] at hz
        cases q2 : strsV ys with
        | none => rw [q2] at hz; cases hz
        | some ts =>
          rw [q2] at hz
          simp only [Option.bind_some] at hz
          split at hz
          · rename_i h64
            cases hz
            obtain ⟨a, vs, rfl, h2, h3, h4⟩ := ls x ys rfl q1
            have ev := strs_sd h4 q2
            refine thn (cr_sortedS pins s σ H _ us (Sh Q) I r ⟨a, ts.map tx, rfl, by rw [List.map_map]; rw [ev] at h2; exact h2, by rw [List.length_map]; exact h64, fun zs p pm so hp => ?_⟩) fun _ _ z => EP.sh z
            have e := sorted_is pm so
            rw [e, List.map_map]
            have rr : Rels g ρ H ((sortT ts).map .str) ((sortT ts).map (V.str ∘ tx)) := strs_rel fun t ht => (strs_len h4 q2) t ((sortT_perm ts).mem_iff.mp ht)
            exact shL w rr (by rw [List.length_map, sortT_len]; exact Nat.le_of_lt (Nat.lt_of_lt_of_le h64 (by decide))) q hp
          · cases hz
    · cases hz
  | tuple =>
    simp only [fnV] at hz
    unfold tupleV at hz
    split at hz
    · cases hz
      obtain ⟨v, rfl, h1⟩ := one_sd ra
      obtain ⟨a, vs, rfl, h2, h3, h4⟩ := tup_sd h1
      exact call_tupleT pins s σ H _ us Q I r ⟨a, vs, rfl, by rw [hK]; exact h2, fin _ h1⟩
    · rename_i x _
      cases q1 : asL st x with
      | none => rw [q1] at hz; cases hz
      | some ys =>
        rw [q1] at hz; cases hz
        obtain ⟨a, vs, rfl, h2, h3, h4⟩ := ls x ys rfl q1
        exact call_tuple_of pins s σ H _ us Q I r ⟨a, vs, rfl, .inl ⟨h2, fun l hl => q ρ _ (Ext.new hl) (w.new hl) _ (newT w h4 h3 hl)⟩⟩
    · cases hz
  | all =>
    simp only [fnV] at hz
    split at hz
    · rename_i x
      cases q1 : asL st x with
      | none => rw [q1] at hz; cases hz
      | some ys =>
        rw [q1] at hz
        simp only [Option.bind_some] at hz
        cases q2 : blsV ys with
        | none => rw [q2] at hz; cases hz
        | some ns =>
          rw [q2] at hz; cases hz
          obtain ⟨a, vs, rfl, h2, h3, h4⟩ := ls x ys rfl q1
          exact cr_all hc pins s σ H _ us Q I r ⟨a, ns, rfl, by rw [← bls_sd h4 q2]; exact h2, fin _ rel_bl⟩
    · cases hz
  | any =>
    simp only [fnV] at hz
    split at hz
    · rename_i x
      cases q1 : asL st x with
      | none => rw [q1] at hz; cases hz
      | some ys =>
        rw [q1] at hz
        simp only [Option.bind_some] at hz
        cases q2 : blsV ys with
        | none => rw [q2] at hz; cases hz
        | some ns =>
          rw [q2] at hz; cases hz
          obtain ⟨a, vs, rfl, h2, h3, h4⟩ := ls x ys rfl q1
          exact cr_any hc pins s σ H _ us Q I r ⟨a, ns, rfl, by rw [← bls_sd h4 q2]; exact h2, fin _ rel_bl⟩
    · cases hz
  | max =>
    simp only [fnV] at hz
    split at hz
    · cases hz
      obtain ⟨v, r', rfl, h1, h2⟩ := ra.cons_inv
      obtain ⟨v', rfl, h3⟩ := one_sd h2
      simp only [Rel] at h1 h3; subst h1; subst h3
      exact call_max2 hc pins s σ H _ us Q I r ⟨_, _, rfl, fin _ rel_int⟩
    · cases hz
  | min =>
    simp only [fnV] at hz
    split at hz
    · cases hz
      obtain ⟨v, r', rfl, h1, h2⟩ := ra.cons_inv
      obtain ⟨v', rfl, h3⟩ := one_sd h2
      simp only [Rel] at h1 h3; subst h1; subst h3
      exact call_min2 hc pins s σ H _ us Q I r ⟨_, _, rfl, fin _ rel_int⟩
    · cases hz
  | ssort => exact absurd rfl hf
  | dict => simp [fnV] at hz
  | lset => simp [fnV] at hz
end
end Mi
namespace Mi
open PySem L2 PySem.SeqAt PySem.W PyProof.Rows PySem.Spec PySem.Calls
open AutoSeq1 (wpAny_loadPart')
/-! x.extend(t) -/
theorem extT (T : String) (hT : T = "tuple" ∨ T = "list") (l b : Addr) (u v : Array Value) (n m : Nat) (d2 : Option Addr) (s2 : Array (Option Value)) (h0 : ¬(!u.isEmpty && Builtin.List.listTooLong (u.size + v.size)) = true) (h1 : u.size ≤ sizeLine) (h2 : u.size + v.size ≤ sizeLine + 1) :
    Meets (Builtin.«list.extend» ⟨[.ref l, .ref b], []⟩) (fun _ R s => s.heap.get? l = some ⟨.type "list", none, .seq u n, #[]⟩ ∧ s.heap.get? b = some (sqO T v m d2 s2) ∧ R (.ok (.ret Value.none)) { s with heap := s.heap.update l (Obj.mapSeq fun x => x ++ v), toks := s.toks }) := by
  rcases hT with rfl | rfl
  · exact .of_wp fun prog w A R s h => by
      obtain ⟨hp, g, d, tk, os⟩ := s
      obtain ⟨hl, hb, h⟩ := h
      have f1 := AutoSeq1.idx_int
      have f2 := AutoSeq1.sub_tuple_tuple
      have f3 := AutoSeq1.sub_list_list
      have f4 := AutoSeq1.sub_tuple_list
      have f5 := AutoSeq1.sub_list_tuple
      have hz : (u ++ v).size ≤ sizeLine + 1 := by rw [Array.size_append]; exact h2
      wp_walk using (PySem.wpAny_updateSeq hl rfl (hz := h1) (_hz' := hz)), wpAny_loadPart' hl, wpAny_loadPart' hb
      exact ⟨_, rfl, h⟩
  · exact .of_wp fun prog w A R s h => by
      obtain ⟨hp, g, d, tk, os⟩ := s
      obtain ⟨hl, hb, h⟩ := h
      have f1 := AutoSeq1.idx_int
      have f2 := AutoSeq1.sub_tuple_tuple
      have f3 := AutoSeq1.sub_list_list
      have f4 := AutoSeq1.sub_tuple_list
      have f5 := AutoSeq1.sub_list_tuple
      have hz : (u ++ v).size ≤ sizeLine + 1 := by rw [Array.size_append]; exact h2
      wp_walk using (PySem.wpAny_updateSeq hl rfl (hz := h1) (_hz' := hz)), wpAny_loadPart' hl, wpAny_loadPart' hb
      exact ⟨_, rfl, h⟩
section
variable {X : Cx}
theorem mt_extendS : MtM X "list.extend" (fun x vs H Q => ∃ l b xs zs, x = .ref l ∧ vs = [.ref b] ∧ H l = some (.lst xs) ∧ (SqT X.K H b zs ∨ SqL X.K H b zs) ∧ xs.length + zs.length ≤ sizeLine ∧ Q .non (upd H l (.lst (xs ++ zs)))) := by
  intro pins s σ H x vs v us Q I rx rv h
  obtain ⟨l, b, xs, zs, rfl, rfl, hH, hB, hz, q⟩ := h
  cases rx
  obtain ⟨u, rfl, ru⟩ := rv.one
  cases ru
  obtain ⟨z, its, n, r, hl, e⟩ := I.lstM hH
  have go : ∀ (T : String) (ws : List Value) (m : Nat) (d2 : Option Addr) (s2 : Array (Option Value)), (T = "tuple" ∨ T = "list") → s.heap.get? b = some (sqO T ws.toArray m d2 s2) → Vals zs ws → wpAny (model X.prog X.w) X.A (call (.builtin "list.extend") [.ref l, .ref b]) (EP X pins σ Q) X.xe s := by
    intro T ws m d2 s2 hT e2 r2
    have l2 := r2.length
    have hsz : its.toArray.size + ws.toArray.size ≤ sizeLine := by rw [List.size_toArray, List.size_toArray]; omega
    have long : ¬ (!its.toArray.isEmpty && Builtin.List.listTooLong (its.toArray.size + ws.toArray.size)) = true := by
      rw [notLongL hsz, Bool.and_false]; decide
    refine call_meets F.slot_list_extend ⟨_, e, rfl⟩ F.entry_list_extend (F.args_list_extend_2 _ _) (extT T hT l b its.toArray ws.toArray n m d2 s2 long (by rw [List.size_toArray]; omega) (by omega)) ⟨e, e2, ?_⟩
    refine ⟨.non, _, I.lset (its' := its ++ ws) hH e (by simp) (r.append r2) ?_, rfl, q⟩
    rw [List.length_append]; omega
  rcases hB with hB | hB
  · obtain ⟨ws, r2, pl, _⟩ := I.tuple hB
    obtain ⟨⟨c2, d2, dt2, s2⟩, o2, hc2, m2, hd2⟩ := id pl
    simp only at hc2 hd2
    subst hc2 hd2
    exact go "tuple" ws m2 d2 s2 (.inl rfl) o2 r2
  · obtain ⟨ws, r2, pl, _⟩ := I.list hB
    obtain ⟨⟨c2, d2, dt2, s2⟩, o2, hc2, m2, hd2⟩ := id pl.isList
    simp only at hc2 hd2
    subst hc2 hd2
    exact go "list" ws m2 d2 s2 (.inr rfl) o2 r2
end
section
variable {X : Cx}
theorem op_isB (yes : Bool) : OpR X (compareOp (if yes then .Is else .IsNot)) (fun x y H Q => ∃ a b, x = .bl a ∧ y = .bl b ∧ Q (.bl (if yes then a == b else !(a == b))) H) := by
  intro pins s σ H x y v u Q I rx ry h
  obtain ⟨a, b, rfl, rfl, q⟩ := h
  cases rx
  cases ry
  cases yes with
  | true =>
    have e : compareOp .Is (.bool a) (.bool b) = pure (.bool (a == b)) := by cases a <;> cases b <;> rfl
    exact wpAny_of_eq e ⟨.bl _, H, I, rfl, q⟩
  | false =>
    have e : compareOp .IsNot (.bool a) (.bool b) = pure (.bool (!(a == b))) := by cases a <;> cases b <;> rfl
    exact wpAny_of_eq e ⟨.bl _, H, I, rfl, q⟩
end
end Mi
namespace Mi
open PySem L2 PySem.SeqAt

section
variable {X : Cx} {g : Gd}
def RM (g : Gd) (m : MO) : V → List V → Hp → VK → Prop := fun x xs H Q => ∃ ρ st a as v st', Wd g ρ st H ∧ Rel g ρ H a x ∧ Rels g ρ H as xs ∧ mtV m a as st = some (v, st') ∧
  ∀ ρ' H', Ext ρ H ρ' H' → Wd g ρ' st' H' → ∀ V, Rel g ρ' H' v V → Q V H'
def moN : MO → String
  | .append => "append" | .extend => "extend" | .join => "join" | .split => "split" | .upper => "upper" | .startswith => "startswith" | .endswith => "endswith" | .replace => "replace" | .strip => "strip" | .isalnum => "isalnum" | .index => "index" | .items => "items"
def moT : MO → String
  | .append => "list" | .extend => "list" | .items => "dict" | .index => "list" | _ => "str"
def moI : MO → String
  | .append => "list.append" | .extend => "list.extend" | .join => "str.join" | .split => "str.split" | .upper => "str.upper" | .startswith => "str.startswith" | .endswith => "str.endswith" | .replace => "str.replace" | .strip => "str.strip" | .isalnum => "str.isalnum" | .index => "list.index" | .items => "dict.items"

/-! texts -/
theorem glue_foldl (sep : Txt) : ∀ (l : List Txt) (acc : Array Nat), (l.map tx).foldl (fun acc p => acc ++ (tx sep).cps ++ p.cps) acc = acc ++ (l.flatMap fun t => sep ++ t).toArray
  | [], acc => by simp
  | t :: l, acc => by
    rw [List.map_cons, List.foldl_cons, glue_foldl sep l]
    apply Array.toList_inj.mp
    simp [tx]
theorem joinT_flat (sep : Txt) : ∀ (x : Txt) (l : List Txt), joinT sep (x :: l) = x ++ l.flatMap fun t => sep ++ t
  | x, [] => by simp [joinT]
  | x, y :: l => by rw [joinT, joinT_flat sep y l]; simp
theorem join_tx (sep : Txt) (l : List Txt) : PySem.Txt.join (tx sep) (l.map tx) = tx (joinT sep l) := by
  show PySem.Builtin.Str.glued (tx sep) (l.map tx) = _
  unfold PySem.Builtin.Str.glued
  cases l with
  | nil => rfl
  | cons x l =>
    rw [List.map_cons, List.drop_one, List.tail_cons, List.headD_cons, glue_foldl, joinT_flat]
    show (⟨(tx x).cps ++ _⟩ : Str) = tx _
    simp [tx]
theorem joinT_len (sep : Txt) : ∀ l : List Txt, (joinT sep l).length ≤ (l.map (·.length)).sum + l.length * sep.length
  | [] => by simp [joinT]
  | [x] => by simp [joinT]
  | x :: y :: l => by
    have ih := joinT_len sep (y :: l)
    rw [joinT]
    simp only [List.length_append, List.map_cons, List.sum_cons, List.length_cons] at ih ⊢
    have e : (l.length + 1 + 1) * sep.length = (l.length + 1) * sep.length + sep.length := by rw [Nat.succ_mul]
    omega
theorem up_one (c : Nat) (h : 97 ≤ c ∧ c ≤ 122) : Unicode.upperOf c = [c - 32] := by
  have : ∀ k : Fin 26, Unicode.upperOf (97 + k.val) = [97 + k.val - 32] := by decide +kernel
  have q := this ⟨c - 97, by omega⟩
  simpa [show 97 + (c - 97) = c by omega] using q
theorem up_tx {s : Txt} (h : s.all (fun c => decide (97 ≤ c ∧ c ≤ 122)) = true) : PySem.Txt.upper (tx s) = tx (s.map (· - 32)) := by
  have e : ∀ (l : Txt) (n : Nat), l.all (fun c => decide (97 ≤ c ∧ c ≤ 122)) = true → ((l.mapIdx fun i c => (Unicode.upperOf c).toArray).flatMap fun a => a.toList) = l.map (· - 32) := by
    intro l n hl
    have : (l.mapIdx fun i c => (Unicode.upperOf c).toArray) = l.map fun c => (Unicode.upperOf c).toArray := by
      apply List.ext_getElem?
      intro i
      simp
    rw [this]
    induction l with
    | nil => rfl
    | cons c l ih =>
      simp only [List.all_cons, Bool.and_eq_true, decide_eq_true_eq] at hl
      rw [List.map_cons, List.flatMap_cons, List.map_cons, up_one c hl.1]
      have : (l.mapIdx fun i c => (Unicode.upperOf c).toArray) = l.map fun c => (Unicode.upperOf c).toArray := by
        apply List.ext_getElem?
        intro i
        simp
      rw [ih hl.2 this]; rfl
  unfold PySem.Txt.upper placed
  unfold tx
  congr 1
  apply Array.toList_inj.mp
  rw [Array.toList_flatten]
  have := e s 0 h
  simp only [List.mapIdx_toArray, List.map_toArray] at this ⊢
  rw [← this, ← List.flatMap_def]
theorem starts_tx (s t : Txt) : PySem.Txt.startswith (tx s) (tx t) = t.isPrefixOf s := by
  unfold PySem.Txt.startswith PySem.Builtin.Str.subAt
  rw [tx_len, tx_len, Nat.zero_add, Bool.eq_iff_iff, Bool.and_eq_true, decide_eq_true_eq, beq_iff_eq, List.isPrefixOf_iff_prefix]
  have e : (tx s).cps.extract 0 t.length = (s.take t.length).toArray := by
    unfold tx
    simp
  rw [e]
  constructor
  · rintro ⟨h1, h2⟩
    have : s.take t.length = t := by
      have := congrArg Array.toList h2
      simpa [tx] using this
    exact ⟨s.drop t.length, by
      conv => lhs; arg 1; rw [← this]
      simp⟩
  · rintro ⟨r, rfl⟩
    refine ⟨by simp, ?_⟩
    simp [tx]
theorem splitC_ne (c : Nat) : ∀ s : Txt, splitC c s ≠ []
  | [] => by simp [splitC]
  | a :: r => by
    simp only [splitC]
    split
    · simp
    · split <;> simp
theorem splitC_free (c : Nat) : ∀ s : Txt, ∀ p ∈ splitC c s, c ∉ p
  | [], p, h => by simp [splitC] at h; subst h; simp
  | a :: r, p, h => by
    have ih := splitC_free c r
    simp only [splitC] at h
    split at h
    · rcases List.mem_cons.mp h with rfl | h
      · simp
      · exact ih p h
    · rename_i ne
      split at h
      · rename_i q qs e
        rcases List.mem_cons.mp h with rfl | h
        · intro z
          rcases List.mem_cons.mp z with z | z
          · exact ne z.symm
          · exact ih q (by rw [e]; simp) z
        · exact ih p (by rw [e]; simp [h])
      · simp at h; subst h
        intro z
        simp at z
        exact ne z.symm
theorem splitC_join (c : Nat) : ∀ s : Txt, joinT [c] (splitC c s) = s
  | [] => rfl
  | a :: r => by
    have ih := splitC_join c r
    simp only [splitC]
    split
    · rename_i e
      subst e
      cases q : splitC a r with
      | nil => exact absurd q (splitC_ne a r)
      | cons p ps => rw [q] at ih; simp only [joinT, ih]; rfl
    · cases q : splitC c r with
      | nil => exact absurd q (splitC_ne c r)
      | cons p ps =>
        rw [q] at ih
        cases ps with
        | nil => simp only [joinT] at ih ⊢; rw [ih]
        | cons p2 ps => simp only [joinT, List.cons_append] at ih ⊢; rw [ih]
theorem splitC_len (c : Nat) : ∀ s : Txt, (splitC c s).length ≤ s.length + 1
  | [] => by simp [splitC]
  | a :: r => by
    have ih := splitC_len c r
    simp only [splitC]
    split
    · simp; omega
    · cases q : splitC c r with
      | nil => simp
      | cons p ps => rw [q] at ih; simp at ih ⊢; omega
theorem splitC_mem (c : Nat) : ∀ s : Txt, ∀ p ∈ splitC c s, p.length ≤ s.length
  | [], p, h => by simp [splitC] at h; subst h; simp
  | a :: r, p, h => by
    have ih := splitC_mem c r
    simp only [splitC] at h
    split at h
    · rcases List.mem_cons.mp h with rfl | h
      · simp
      · have := ih p h; simp; omega
    · cases q : splitC c r with
      | nil => rw [q] at h; simp at h; subst h; simp
      | cons p1 ps =>
        rw [q] at h
        rcases List.mem_cons.mp h with rfl | h
        · have := ih p1 (by rw [q]; simp); simp; omega
        · have := ih p (by rw [q]; simp [h]); simp; omega
theorem split_tx (c : Nat) (s : Txt) (hc : c < 256) : PySem.Txt.split (tx s) (tx [c]) = (splitC c s).map tx := by
  have e : tx s = PySem.Txt.join (tx [c]) ((splitC c s).map tx) := by rw [join_tx, splitC_join]
  have := TL.split_join (y := tx [c]) (s := c) (S := []) rfl (by simp [tx]; exact hc) (parts := (splitC c s).map tx) (by simpa using splitC_ne c s) (fun p hp => by
    obtain ⟨q, hq, rfl⟩ := List.mem_map.mp hp
    exact splitC_free c s q hq)
  rw [← e] at this
  exact this
theorem MtR.sh {id : String} {r : V → List V → Hp → VK → Prop} (h : MtR X id r) : MtR X id (fun x xs H Q => r x xs H (Sh Q)) := by
  intro pins s σ H x xs v us Q I rx rs hh
  exact thn (h pins s σ H x xs v us (Sh Q) I rx rs hh) fun _ _ z => EP.sh z
/-! methods -/
theorem mt_all (hK : X.K = g.K) (m : MO) : MtR X (moI m) (RM g m) := by
  intro pins s σ H x xs v us Q I rx rs h
  obtain ⟨ρ, st, a, as, z, st', w, ra, rs2, hz, q⟩ := h
  cases m with
  | append =>
    simp only [mtV] at hz
    split at hz
    · rename_i n y
      obtain ⟨vy, rfl, ry⟩ := one_sd rs2
      split at hz
      · rename_i ys e
        split at hz
        · rename_i hl
          cases hz
          simp only [Rel] at ra
          obtain ⟨p, rfl, hp⟩ := ra
          obtain ⟨vs, h1, h2, h3⟩ := w.ob n _ p e hp
          have e2 : Ext ρ H ρ (upd H p (.lst (vs ++ [vy]))) := Ext.write (List.mem_of_getElem? hp) (fun _ z => by rw [h1] at z; cases z) (fun _ _ z => by rw [h1] at z; cases z)
          refine mt_append pins s σ H _ _ v us Q I rx rs ⟨p, vs, vy, rfl, rfl, h1, by rw [← h3.length]; exact hl, ?_⟩
          refine q ρ _ e2 (w.write hp e2 ⟨_, upd_same, ?_, ?_⟩) _ rel_non
          · rw [List.length_append]; exact hl
          · exact (h3.append (.cons ry .nil)).ext e2
        · cases hz
      · cases hz
    · cases hz
  | join =>
    simp only [mtV] at hz
    split at hz
    · rename_i sep y
      obtain ⟨vy, rfl, ry⟩ := one_sd rs2
      split at hz
      · rename_i ts e
        split at hz
        · rename_i hl
          cases hz
          simp only [Rel] at ra
          obtain ⟨rfl, hsep⟩ := ra
          cases q1 : asL st y with
          | none => rw [q1] at e; cases e
          | some ys =>
            rw [q1] at e
            simp only [Option.bind_some] at e
            obtain ⟨p, vs, rfl, h1, h2, h3⟩ := asL_sd w ry q1
            have ev := strs_sd h3 e
            refine mt_join pins s σ H _ _ v us Q I rx rs ⟨tx sep, p, ts.map tx, rfl, rfl, .inl ?_, ?_, ?_⟩
            · rw [List.map_map, hK]; rw [ev] at h1; exact h1
            · rw [List.map_map, List.length_map, tx_len]
              have : ((fun x : Str => x.length) ∘ tx) = fun t : Txt => t.length := funext fun t => tx_len t
              rw [this]; exact hl
            · rw [join_tx]
              exact q ρ H Ext.refl w _ (rel_str (Nat.le_trans (joinT_len sep ts) (Nat.le_trans hl (by decide))))
        · cases hz
      · cases hz
    · cases hz
  | upper =>
    simp only [mtV] at hz
    split at hz
    · rename_i t
      simp only [Rels] at rs2
      subst rs2
      split at hz
      · rename_i hc
        cases hz
        simp only [Rel] at ra
        obtain ⟨rfl, hl⟩ := ra
        refine mt_upper pins s σ H _ _ v us Q I rx rs ⟨tx t, rfl, rfl, by rw [tx_len]; exact hc.2, ?_⟩
        rw [up_tx hc.1]
        exact q ρ H Ext.refl w _ (rel_str (by rw [List.length_map]; exact hl))
      · cases hz
    · cases hz
  | startswith =>
    simp only [mtV] at hz
    split at hz
    · rename_i t t2
      obtain ⟨vy, rfl, ry⟩ := one_sd rs2
      cases hz
      simp only [Rel] at ra ry
      obtain ⟨rfl, hl⟩ := ra
      obtain ⟨rfl, hl2⟩ := ry
      refine mt_startswith pins s σ H _ _ v us Q I rx rs ⟨tx t, tx t2, rfl, rfl, ?_⟩
      rw [starts_tx]
      exact q ρ H Ext.refl w _ rel_bl
    · cases hz
  | extend =>
    simp only [mtV] at hz
    split at hz
    · rename_i n y
      obtain ⟨vy, rfl, ry⟩ := one_sd rs2
      split at hz
      · rename_i ys e
        split at hz
        · rename_i zs ez
          split at hz
          · rename_i hl
            cases hz
            simp only [Rel] at ra
            obtain ⟨p, rfl, hp⟩ := ra
            obtain ⟨vs, h1, h2, h3⟩ := w.ob n _ p e hp
            have sq : ∃ b ws, vy = .ref b ∧ (SqT X.K H b ws ∨ SqL X.K H b ws) ∧ Rels g ρ H zs ws := by
              cases y with
              | tup ts =>
                simp only [asS, Option.some.injEq] at ez
                subst ez
                obtain ⟨b, ws, e1, k1, _, k3⟩ := tup_sd ry
                exact ⟨b, ws, e1, .inl (hK ▸ k1), k3⟩
              | _ =>
                obtain ⟨b, ws, e1, k1, _, k3⟩ := asL_sd w ry ez
                exact ⟨b, ws, e1, .inr (hK ▸ k1), k3⟩
            obtain ⟨b, ws, rfl, k1, k3⟩ := sq
            have e2 : Ext ρ H ρ (upd H p (.lst (vs ++ ws))) := Ext.write (List.mem_of_getElem? hp) (fun _ z => by rw [h1] at z; cases z) (fun _ _ z => by rw [h1] at z; cases z)
            have hl2 : vs.length + ws.length ≤ sizeLine := by rw [← h3.length, ← k3.length]; exact hl
            refine mt_extendS pins s σ H _ _ v us Q I rx rs ⟨p, b, vs, ws, rfl, rfl, h1, k1, hl2, ?_⟩
            refine q ρ _ e2 (w.write hp e2 ⟨_, upd_same, ?_, ?_⟩) _ rel_non
            · rw [List.length_append]; exact hl
            · exact (h3.append k3).ext e2
          · cases hz
        · cases hz
      · cases hz
    · cases hz
  | split =>
    simp only [mtV] at hz
    split at hz
    · rename_i t c
      obtain ⟨vy, rfl, ry⟩ := one_sd rs2
      split at hz
      · rename_i hc
        cases hz
        simp only [Rel] at ra ry
        obtain ⟨rfl, hl⟩ := ra
        obtain ⟨rfl, hl2⟩ := ry
        refine MtR.sh mt_split pins s σ H _ _ v us Q I rx rs ⟨tx t, tx [c], rfl, rfl, rfl, by rw [tx_len]; exact hc.2, fun p hp => ?_⟩
        rw [split_tx c t hc.1, List.map_map]
        have hl3 : ((splitC c t).map Val.str).length ≤ sizeLine := by
          have := splitC_len c t
          rw [List.length_map]; omega
        exact shL w (strs_rel fun z hz => Nat.le_trans (splitC_mem c t z hz) hl) hl3 q hp
      · cases hz
    · cases hz
  | _ => simp [mtV] at hz
theorem mtOk_ty (hK : X.K = g.K) {ρ : List Addr} {st : Store} {H : Hp} {m : MO} {x : Val} {v : V} (w : Wd g ρ st H) (r : Rel g ρ H x v) (h : mtOk m x st = true) (hm : m ≠ .items ∧ m ≠ .index) : tyV X.K (moT m) v H := by
  have str : ∀ t, x = .str t → moT m = "str" → tyV X.K (moT m) v H := fun t e em => by
    subst e
    simp only [Rel] at r
    obtain ⟨rfl, _⟩ := r
    exact em
  have lst : ∀ n, x = .loc n → (match st[n]? with | some (.lst _) => true | _ => false) = true → moT m = "list" → tyV X.K (moT m) v H := fun n e h2 em => by
    subst e
    simp only [Rel] at r
    obtain ⟨a, rfl, hp⟩ := r
    split at h2
    · rename_i xs e
      obtain ⟨vs, h1, _⟩ := w.ob n _ a e hp
      exact .inl ⟨em, vs, .inl (.inl h1)⟩
    · cases h2
  cases m <;> cases x <;> simp only [mtOk, Bool.false_eq_true] at h <;> first
    | exact str _ rfl rfl
    | exact lst _ rfl h rfl
    | exact absurd rfl hm.1
    | exact absurd rfl hm.2
theorem mo_plain : ∀ m : MO, PlainAttrs (moT m)
  | .append => PySem.F.plainAttrs_list
  | .extend => PySem.F.plainAttrs_list
  | .join => PySem.F.plainAttrs_str
  | .split => PySem.F.plainAttrs_str
  | .upper => PySem.F.plainAttrs_str
  | .startswith => PySem.F.plainAttrs_str
  | .endswith => PySem.F.plainAttrs_str
  | .replace => PySem.F.plainAttrs_str
  | .strip => PySem.F.plainAttrs_str
  | .isalnum => PySem.F.plainAttrs_str
  | .index => PySem.F.plainAttrs_list
  | .items => PySem.F.plainAttrs_dict
theorem mo_slot : ∀ (m : MO), m ≠ .items ∧ m ≠ .index → Slot (moT m) (moN m) (moI m)
  | .append, _ => PySem.F.slot_list_append
  | .extend, _ => PySem.F.slot_list_extend
  | .join, _ => PySem.F.slot_str_join
  | .split, _ => PySem.F.slot_str_split
  | .upper, _ => PySem.F.slot_str_upper
  | .startswith, _ => PySem.F.slot_str_startswith
  | .endswith, _ => PySem.F.slot_str_endswith
  | .replace, _ => PySem.F.slot_str_replace
  | .strip, _ => PySem.F.slot_str_strip
  | .isalnum, _ => PySem.F.slot_str_isalnum
  | .items, h => absurd rfl h.1
  | .index, h => absurd rfl h.2
theorem mo_type : ∀ (m : MO), m ≠ .items ∧ m ≠ .index → typeOf (.builtin (moI m)) = pure (.type "method_descriptor")
  | .append, _ => PySem.F.type_list_append
  | .extend, _ => PySem.F.type_list_extend
  | .join, _ => PySem.F.type_str_join
  | .split, _ => PySem.F.type_str_split
  | .upper, _ => PySem.F.type_str_upper
  | .startswith, _ => PySem.F.type_str_startswith
  | .endswith, _ => PySem.F.type_str_endswith
  | .replace, _ => PySem.F.type_str_replace
  | .strip, _ => PySem.F.type_str_strip
  | .isalnum, _ => PySem.F.type_str_isalnum
  | .items, h => absurd rfl h.1
  | .index, h => absurd rfl h.2

/-! slices -/
theorem cut_len {α : Type} (xs : List α) (lo hi : Option Int) : (cut xs lo hi).length ≤ xs.length := by
  unfold cut
  rw [List.length_take, List.length_drop]
  omega
theorem Rels.cut {ρ : List Addr} {H : Hp} {xs : List Val} {vs : List V} (h : Rels g ρ H xs vs) (lo hi : Option Int) : Rels g ρ H (Mi.cut xs lo hi) (cutV vs lo hi) := by
  unfold Mi.cut cutV
  rw [h.length]
  exact (h.drop _).take _
def RS (g : Gd) : V → Option Int → Option Int → Hp → VK → Prop := fun x lo hi H Q => ∃ ρ st a v, Wd g ρ st H ∧ Rel g ρ H a x ∧ slV st a lo hi = some v ∧
  ∀ ρ' H', Ext ρ H ρ' H' → Wd g ρ' st H' → ∀ V, Rel g ρ' H' v V → Q V H'
theorem SlR.sh {r : V → Option Int → Option Int → Hp → VK → Prop} (h : SlR X r) : SlR X (fun x lo hi H Q => r x lo hi H (Sh Q)) := by
  intro pins s σ H x v vl vu lo hi sl Q I rx hs pl pu hh
  obtain ⟨T, id, h1, h2, h3⟩ := h pins s σ H x v vl vu lo hi sl (Sh Q) I rx hs pl pu hh
  exact ⟨T, id, h1, h2, thn h3 fun _ _ z => EP.sh z⟩
theorem sl_all (hK : X.K = g.K) : SlR X (RS g) := by
  intro pins s σ H x v vl vu lo hi sl Q I rx hs pl pu h
  obtain ⟨ρ, st, a, z, w, ra, hz, q⟩ := h
  unfold slV at hz
  split at hz
  · rename_i t
    cases hz
    simp only [Rel] at ra
    obtain ⟨rfl, hl⟩ := ra
    refine sl_str pins s σ H _ v vl vu lo hi sl Q I rx hs pl pu ⟨tx t, rfl, by rw [tx_len]; exact hl, ?_⟩
    have e : cutS (tx t) lo hi = tx (cut t lo hi) := by
      unfold cutS cut tx
      simp only [Str.length, List.size_toArray]
    rw [e]
    exact q ρ H Ext.refl w _ (rel_str (Nat.le_trans (cut_len _ _ _) hl))
  · rename_i t
    cases hz
    obtain ⟨p, vs, rfl, h1, h2, h3⟩ := tup_sd ra
    refine sl_tupA pins s σ H _ v vl vu lo hi sl Q I rx hs pl pu ⟨p, vs, rfl, hK ▸ h1, fun hw => ?_, fun hw l hl => ?_⟩
    · have e : cut t lo hi = t := by
        unfold cut
        rw [h3.length, hw.1, hw.2]
        simp [← h3.length]
      rw [e] at q
      exact q ρ H Ext.refl w _ ra
    · exact q ρ _ (Ext.new hl) (w.new hl) _ (newT w (h3.cut lo hi) (Nat.le_trans (cut_len _ _ _) h2) hl)
  · cases q1 : asL st a with
    | none => rw [q1] at hz; cases hz
    | some ys =>
      rw [q1] at hz
      cases hz
      obtain ⟨p, vs, rfl, h1, h2, h3⟩ := asL_sd w ra q1
      exact SlR.sh sl_list pins s σ H _ v vl vu lo hi sl Q I rx hs pl pu ⟨p, vs, rfl, hK ▸ h1, fun l hl => shL w (h3.cut lo hi) (Nat.le_trans (cut_len _ _ _) h2) q hl⟩

/-! isinstance -/
def tyS : TyN → String
  | .int => "int" | .str => "str" | .bool => "bool" | .list => "list" | .tuple => "tuple" | .dict => "dict"
def vTy : Val → String
  | .non => "NoneType" | .bl _ => "bool" | .int _ => "int" | .str _ => "str" | .tup _ => "tuple" | .lst _ => "list" | .dct _ _ => "dict" | .loc _ => ""
theorem ty_sd (hK : X.K = g.K) {ρ : List Addr} {H : Hp} {x : Val} {v : V} (r : Rel g ρ H x v) (h : ∀ n, x ≠ .loc n) : TyX X.K H v (.type (vTy x)) := by
  cases x with
  | non => simp only [Rel] at r; subst r; exact .base .non
  | bl b => simp only [Rel] at r; subst r; exact .base (.bl _)
  | int b => simp only [Rel] at r; subst r; exact .base (.int _)
  | str b => simp only [Rel] at r; obtain ⟨rfl, _⟩ := r; exact .base (.str _)
  | tup xs =>
    simp only [Rel] at r
    obtain ⟨a, vs, rfl, h1, _⟩ := r
    rcases h1 with h1 | ⟨o, its, n, h1, h2, _⟩
    · exact .base (.tup h1)
    · exact .kTuple (by rw [hK]; exact h1) h2
  | lst xs =>
    simp only [Rel] at r
    obtain ⟨a, vs, rfl, h1, _⟩ := r
    rcases h1 with ⟨o, h1⟩ | ⟨o, its, n, h1, h2, _⟩
    · exact .base (.frz h1)
    · exact .kList (by rw [hK]; exact h1) h2
  | dct ks xs =>
    simp only [Rel] at r
    obtain ⟨a, vs, rfl, ⟨o, h1⟩, _⟩ := r
    exact .fDict h1
  | loc n => exact absurd rfl (h n)
theorem isi_kit (t : TyN) (x : Val) (b : Bool) (h : isiV t x = some b) : (∀ n, x ≠ .loc n) ∧ kitB (vTy x) (tyS t) = some b := by
  cases x with
  | loc n => cases t <;> simp [isiV] at h
  | _ =>
    refine ⟨(fun _ z => nomatch z), ?_⟩
    cases t <;> simp only [isiV, Option.some.injEq] at h <;> subst h <;> (simp only [vTy, tyS]; decide +kernel)
theorem isi_all (hK : X.K = g.K) (t : TyN) : CallR X (.builtin "isinstance") (fun xs H Q => ∃ ρ st a v x, Wd g ρ st H ∧ Rel g ρ H a x ∧ xs = [x, .ty (tyS t)] ∧ isiV t a = some v ∧ Q (.bl v) H) := by
  intro pins s σ H xs us Q I r h
  obtain ⟨ρ, st, a, b, x, w, ra, rfl, hb, q⟩ := h
  obtain ⟨h1, h2⟩ := isi_kit t a b hb
  exact call_isi pins s σ H _ us Q I r ⟨x, .ty (tyS t), _, _, b, rfl, .ty _, ty_sd hK ra h1, kit_ty h2, q⟩
end
end Mi
namespace Mi
open PySem L2 PySem.Spec PyProof.Rows

/-! sets of texts: what stands in them, up to the order -/
def kT (e : Int × Value) : Txt := match e.2 with
  | .str z _ => z.cps.toList
  | _ => []
def ElT (w : World) (e : Int × Value) : Prop := ∃ z k, e = (hashStr w z, Value.str z k)
structure TabT (w : World) (ks : List Txt) (es : Array (Int × Value)) (t : SetTable) : Prop where
  el : ∀ e ∈ es.toList, ElT w e
  pm : (es.toList.map kT).Perm ks
  nd : ks.Nodup
  few : ks.length < scanBound
  fit : t.fits es.size = true
  ris : L2.Ris t.place.toList
  led : w.params.followText "set-order" = true ∨ t.led = true
def SetTx (w : World) (h : Heap) (a : Addr) (ks : List Txt) : Prop := ∃ o es ep t, h.get? a = some o ∧ o.ExactSet ∧ o.data = .set es ep t ∧ TabT w ks es t
section
variable {P : Program} {w : World} {ks : List Txt} {es : Array (Int × Value)} {t : SetTable}
theorem TabT.sz (T : TabT w ks es t) : es.size = ks.length := by
  have := T.pm.length_eq
  rwa [List.length_map, Array.length_toList] at this
theorem TabT.elems (T : TabT w ks es t) : ElemsOf (PySem.strKind P w) es.toList := fun e he => by
  obtain ⟨z, k, rfl⟩ := T.el e he
  exact ⟨⟨z, strKind_is P w z k, rfl⟩, rfl⟩
theorem kT_is {e : Int × Value} (h : ElT w e) (z : Str) : (PySem.strKind P w).is z e.2 = true ↔ kT e = z.cps.toList := by
  obtain ⟨y, k, rfl⟩ := h
  constructor
  · intro q
    obtain ⟨k', q'⟩ := Value.isStrOf_shape (show Value.isStrOf z (Value.str y k) = true from q)
    injection q' with q1
    show y.cps.toList = _
    rw [q1]
  · intro q
    have e : y = z := by
      have q : y.cps.toList = z.cps.toList := q
      rw [← tx_of y, ← tx_of z, q]
    subst e
    exact strKind_is P w y k
theorem SetTx.at {h h' : Heap} {a : Addr} (R : SetTx w h a ks) (k : ∀ o, h.get? a = some o → h'.get? a = some o) : SetTx w h' a ks := by
  obtain ⟨o, es, ep, t, h1, h2⟩ := R
  exact ⟨o, es, ep, t, k o h1, h2⟩
/-- the table behind a store -/
theorem put_tab {h : Heap} {a : Addr} {o : Obj} {es es' : Array (Int × Value)} {ep : Nat} {t t' : SetTable} (ho : h.get? a = some o) (hx : o.ExactSet) (hd : o.data = .set es ep t) (T : TabT w ks es' t') :
    SetTx w (h.update a (Obj.putSet es' t')) a ks := ⟨_, es', ep + 1, t', L2.store_at ho hd, hx, rfl, T⟩
end
section
variable {P : Program} {w : World} {A : Around} {E : Value → Shared → Prop} {s : Shared} {a : Addr} {ks : List Txt}
/-- the end of an add: the new table is stored, and laid anew where it is too full -/
theorem tail_tab {gv : Bool → Sem Unit} (hg : ∀ (b : Bool) (s1 : Shared) (Q1 : Unit → Shared → Prop), Q1 () s1 → wpAny (model P w) A (gv b) Q1 E s1) {o : Obj} {es es1 : Array (Int × Value)} {ep : Nat} {t t1 : SetTable}
    (ho : s.heap.get? a = some o) (hx : o.ExactSet) (hd : o.data = .set es ep t) (T : TabT w ks es1 t1) {wd : Bool} {R : Option Bool → Shared → Prop} (hR : ∀ h1, Heap.SameBut a s.heap h1 → SetTx w h1 a ks → R (some true) { s with heap := h1 }) :
    wpAny (model P w) A (do
      storeSet a es1 t1
      if (!wd && t1.tooFull) = true then do
          gv (relayAll t1 es1 (SetTable.grown es1.size)).2.2
          storeSet a (relayAll t1 es1 (SetTable.grown es1.size)).1 (relayAll t1 es1 (SetTable.grown es1.size)).2.1
          pure (some true)
        else pure (some true)) R E s := by
  have few : es1.size < scanBound := by rw [T.sz]; exact T.few
  refine wpAny_bind (wpAny_storeSet_of ho hd ?_ (fits_of_scanBound few))
  have at1 : (s.heap.update a (Obj.putSet es1 t1)).get? a = some { o with data := .set es1 (ep + 1) t1 } := L2.store_at ho hd
  have same1 := Heap.SameBut.update s.heap a (Obj.putSet es1 t1)
  split
  · have p1 := relayAll_perm t1 es1 (SetTable.grown es1.size)
    have p2 := relayAll_fits t1 es1 (SetTable.grown es1.size)
    have p3 := L2.relayAll_ris t1 es1 (SetTable.grown es1.size)
    have p4 := L2.relayAll_led t1 es1 (SetTable.grown es1.size)
    generalize relayAll t1 es1 (SetTable.grown es1.size) = Y at p1 p2 p3 p4 ⊢
    obtain ⟨es2, t2, gave⟩ := Y
    dsimp only at p1 p2 p3 p4 ⊢
    have T2 : TabT w ks es2 t2 := ⟨fun e he => T.el e (p1.mem_iff.mp he), (p1.map kT).trans T.pm, T.nd, T.few, p2, p3, T.led.imp id fun z => by rw [p4]; exact z⟩
    have few2 : es2.size < scanBound := by rw [T2.sz]; exact T2.few
    refine wpAny_bind (hg _ _ _ (wpAny_bind (wpAny_storeSet_of at1 rfl (wpAny_pure (hR _ (same1.trans (Heap.SameBut.update _ a _)) ?_)) (fits_of_scanBound few2))))
    exact put_tab at1 hx rfl T2
  · exact wpAny_pure (hR _ same1 (put_tab ho hx hd T))
def addT (k : Txt) (ks : List Txt) : List Txt := if k ∈ ks then ks else k :: ks
theorem add_tab {z : Str} {tk : Tok} {Q : Bool → Shared → Prop} (R : SetTx w s.heap a ks) (room : ks.length + 1 < scanBound)
    (hQ : ∀ b h1, Heap.SameBut a s.heap h1 → SetTx w h1 a (addT z.cps.toList ks) → Q b { s with heap := h1 }) :
    wpAny (model P w) A (setAddHashed a (.str z tk) ((PySem.strKind P w).hash z)) Q E s := by
  obtain ⟨o, es, ep, t, ho, hx, hd, T⟩ := R
  have isz : (PySem.strKind P w).is z (.str z tk) = true := strKind_is P w z tk
  have sc : (Value.str z tk).scannable = true := rfl
  have few : es.size < scanBound := by rw [T.sz]; exact T.few
  unfold setAddHashed setAddHashedIn
  refine wpAny_holding (wpAny_bind (wpAny_setState_of ho hd T.fit ?_))
  dsimp only
  rw [byScan_of sc few (T.elems (P := P))]
  simp only [↓reduceIte]
  unfold setAddByScan
  refine wpAny_bind (wpAny_bind (wpAny_rule (wpAny_bind (wpAny_setScan_of isz ho hd T.fit (T.elems (P := P)) ?_))))
  cases found : List.findIdx? (fun e => (PySem.strKind P w).is z e.2) es.toList with
  | some j =>
    dsimp only
    obtain ⟨hj, pj, _⟩ := List.findIdx?_eq_some_iff_getElem.mp found
    have mem : z.cps.toList ∈ ks := T.pm.mem_iff.mp (List.mem_map.mpr ⟨es.toList[j], List.getElem_mem hj, (kT_is (T.el _ (List.getElem_mem hj)) z).mp pj⟩)
    refine wpAny_pure (wpAny_pure (hQ _ s.heap (Heap.SameBut.refl a s.heap) ?_))
    rw [addT, if_pos mem]
    exact ⟨o, es, ep, t, ho, hx, hd, T⟩
  | none =>
    dsimp only
    have nmem : z.cps.toList ∉ ks := fun m => by
      obtain ⟨e, he, q⟩ := List.mem_map.mp (T.pm.mem_iff.mpr m)
      have c := List.findIdx?_eq_none_iff.mp found e he
      rw [(kT_is (T.el e he) z).mpr q] at c
      cases c
    have quiet : ∀ (b : Bool) {s1 : Shared} {Q1 : Unit → Shared → Prop}, Q1 () s1 → wpAny (model P w) A (match b with | true => rule "set.scan.the-table-gave-way" | false => pure ()) Q1 E s1 := fun b s1 Q1 q => by
      cases b
      · exact wpAny_pure q
      · exact wpAny_rule q
    have p1 := layNew_perm t es ((PySem.strKind P w).hash z) (.str z tk)
    have p2 := layNew_fits t es ((PySem.strKind P w).hash z) (.str z tk)
    have p3 := L2.layNew_ris t es ((PySem.strKind P w).hash z) (.str z tk) T.ris
    have p4 := L2.layNew_led t es ((PySem.strKind P w).hash z) (.str z tk)
    generalize layNew t es ((PySem.strKind P w).hash z) (.str z tk) = Y at p1 p2 p3 p4 ⊢
    obtain ⟨es1, t1, wd, gave⟩ := Y
    dsimp only at p1 p2 p3 p4 ⊢
    rw [Array.toList_push] at p1
    have pc : es1.toList.Perm (((PySem.strKind P w).hash z, Value.str z tk) :: es.toList) := p1.trans (List.perm_append_singleton _ _)
    have T1 : ∀ t2 : SetTable, t2.fits es1.size = true → L2.Ris t2.place.toList → (w.params.followText "set-order" = true ∨ t2.led = true) → TabT w (addT z.cps.toList ks) es1 t2 := fun t2 q1 q2 q3 => by
      rw [addT, if_neg nmem]
      refine ⟨fun e he => ?_, (pc.map kT).trans (T.pm.cons _), List.nodup_cons.mpr ⟨nmem, T.nd⟩, room, q1, q2, q3⟩
      rcases List.mem_cons.mp (pc.mem_iff.mp he) with q | q
      · rw [q]; exact ⟨z, tk, rfl⟩
      · exact T.el e q
    have hl : w.params.followText "set-order" = true ∨ t1.led = true := T.led.imp id fun q => by rw [p4]; exact q
    refine wpAny_bind (quiet _ ?_)
    split
    · refine wpAny_bind ?_
      rw [hashByValue_scannable 8 sc]
      refine wpAny_pure ?_
      refine tail_tab (ks := addT z.cps.toList ks) (fun b s1 Q1 q => by cases b <;> first | exact wpAny_pure q | exact wpAny_rule q) ho hx hd (T1 _ ?_ ?_ ?_) fun h1 sb r => ?_
      · first | (split <;> first | exact p2 | exact SetTable.fits_plain_off p2) | exact p2
      · first | (split <;> exact p3) | exact p3
      · first | (split <;> exact hl) | exact hl
      · dsimp only; exact wpAny_pure (hQ _ h1 sb r)
    · refine wpAny_bind (wpAny_pure ?_)
      simp only [↓reduceIte]
      refine tail_tab (ks := addT z.cps.toList ks) (fun b s1 Q1 q => by cases b <;> first | exact wpAny_pure q | exact wpAny_rule q) ho hx hd (T1 _ p2 p3 hl) fun h1 sb r => ?_
      dsimp only; exact wpAny_pure (hQ _ h1 sb r)
end
end Mi
namespace Mi
open PySem L2 PySem.Spec PyProof.Rows

section
variable {P : Program} {w : World} {A : Around} {E : Value → Shared → Prop} {s : Shared} {a : Addr} {ks : List Txt}
theorem strs_values : ∀ (vs : List Value), (∀ v ∈ vs, ∃ z k, v = Value.str z k) → ∃ zs : List Str, StrsAre vs zs ∧ zs.map (fun z => z.cps.toList) = vs.map fun v => kT (0, v)
  | [], _ => ⟨[], .nil, rfl⟩
  | v :: vs, h => by
    obtain ⟨z, k, rfl⟩ := h v List.mem_cons_self
    obtain ⟨zs, h1, h2⟩ := strs_values vs fun u hu => h u (List.mem_cons_of_mem _ hu)
    exact ⟨z :: zs, .cons z k h1, by rw [List.map_cons, List.map_cons, h2]; rfl⟩
/-- sorted(a set of texts) -/
theorem sorted_tab {Q : Value → Shared → Prop} (R : SetTx w s.heap a ks) (hh : A.handled = none) (h64 : ks.length < 64)
    (hQ : ∀ s1 p (out : Array Value) (c : Nat), (∀ b o, s.heap.get? b = some o → s1.heap.get? b = some o) → s1.gens = s.gens → s1.os = s.os → s.heap.objs.size ≤ p → s1.heap.get? p = some (seqObj "list" out c) →
      StrsAre out.toList ((sortT ks).map tx) → Q (.ref p) s1) : wpAny (model P w) A (call (.builtin "sorted") [.ref a]) Q E s := by
  obtain ⟨o, es, ep, t, ho, hx, hd, T⟩ := R
  refine Calls.call_function_entry kind_sorted plain_sorted entry_sorted (args_sorted1 _) ?_
  unfold Builtin.«sorted»
  refine wpAny_bind (m := checkCount "sorted" 1 1 _) (wpAny_pure ?_)
  refine wpAny_bind (L2.collect_set (A := A.in1) hh ⟨o, ho, hx.1, hd⟩ T.fit (by rw [T.sz]; exact T.few) T.ris T.led fun s1 vs keep big hg hos pm => ?_)
  have many : vs.length = ks.length := by rw [pm.length_eq, List.length_map, Array.length_toList, T.sz]
  obtain ⟨zs, S, ez⟩ := strs_values vs fun v hv => by
    obtain ⟨e, he, rfl⟩ := List.mem_map.mp (pm.mem_iff.mp hv)
    obtain ⟨z, k, rfl⟩ := T.el e he
    exact ⟨z, k, rfl⟩
  have zk : (zs.map fun z => z.cps.toList).Perm ks := by
    have p := pm.map fun v => kT (0, v)
    rw [List.map_map] at p
    rw [ez]
    exact p.trans T.pm
  refine wpAny_bind (wpAny_newList ?_ (by rw [many, sizeLine_eq]; omega))
  have atL : (s1.heap.push (seqObj "list" vs.toArray 0)).get? s1.heap.objs.size = some (seqObj "list" vs.toArray 0) := Heap.get?_push_size _ rfl
  refine wpAny_bind (wpAny_holding (wpAny_call_entry slot_list_sort ⟨_, atL, rfl⟩ entry_list_sort
    (list_sort_treeK strKind_oneLt atL S.keysOf (fun v1 v2 rest e => keyKind_strs (by rw [← e]; exact S)) (by rw [many]; exact h64) fun st1 hp hs => ⟨_, rfl, ?_⟩) (args_list_sort _)))
  obtain ⟨ys, y1, y2, y3⟩ := sorted_out_str S hp hs
  obtain ⟨c, hc⟩ := sortedHeap_at (vs := vs) (out := (arrOf st1).map (·.2)) atL
  have yk : ys = (sortT ks).map tx := by
    refine sorted_is ?_ y3
    have p2 : (zs.map fun z => tx z.cps.toList).Perm (ks.map tx) := by
      have := zk.map tx
      rwa [List.map_map] at this
    rw [map_tx_inv] at p2
    exact y2.trans p2
  rw [yk] at y1
  refine wpAny_pure ⟨_, rfl, hQ _ s1.heap.objs.size _ c (fun b u e => ?_) hg hos big hc y1⟩
  have q := keep b u e
  have lt := Heap.lt_size q
  show (sortedHeap (s1.heap.push (seqObj "list" vs.toArray 0)) s1.heap.objs.size vs _).get? b = some u
  rw [sortedHeap_old (Nat.ne_of_lt lt) (by rw [size_push']; exact Nat.lt_succ_of_lt lt)]
  exact Heap.get?_push_of_some _ q
end

/-! over the layer -/
def SetX (w : World) (a : Addr) (ks : List Txt) : HO := .ext fun h => SetTx w h a ks
section
variable {X : Cx}
theorem setX_new {P : Program} {w : World} {H : Hp} {h : Heap} {a : Addr} {ks : List Txt} (R : SetTx w h a ks) : ObjOk P w H h a (SetX w a ks) := by
  have ⟨o, _, _, _, ho, _⟩ := R
  exact ⟨R, ⟨o, ho⟩, fun _ _ p k => p.at k⟩
theorem call_sortedT (hc : X.calm = true) : CallR X (.builtin "sorted") (fun xs H Q => ∃ a ks, xs = [.ref a] ∧ H a = some (SetX X.w a ks) ∧ ks.length < 64 ∧ ∀ p, H p = none → Q (.ref p) (upd H p (.lst ((sortT ks).map (V.str ∘ tx))))) := by
  intro pins s σ H xs us Q I r h
  obtain ⟨a, ks, rfl, ha, h64, q⟩ := h
  rw [Vals.ref1 r]
  have R : SetTx X.w s.heap a ks := (I.hok a _ ha).1
  refine sorted_tab R (I.ok.hd hc) h64 fun s1 p out c keep hg hos hp hat hs => ?_
  have few : ((sortT ks).map (V.str ∘ tx)).length ≤ sizeLine := by rw [List.length_map, sortT_len, sizeLine_eq]; omega
  have new : H p = none := I.hok.fresh hp
  have J : Inv X pins σ (upd H p (.lst ((sortT ks).map (V.str ∘ tx)))) { s with heap := s1.heap, gens := s1.gens, drawn := s1.drawn, toks := s1.toks } := by
    refine I.call (ch := []) (Un.laid keep hp new) (I.hok.laid keep hp ⟨few, out.toList, c, ?_, hat⟩) (by rw [hg]; exact I.bare) (fun _ z => nomatch z)
    have := vals_of_strs hs
    rwa [List.map_map] at this
  have e : s1 = { s with heap := s1.heap, gens := s1.gens, drawn := s1.drawn, toks := s1.toks } := by
    cases s1
    cases s
    cases hos
    rfl
  rw [e]
  exact ⟨.ref p, _, J, rfl, q p new⟩
end
end Mi
namespace Mi
open PySem L2 PySem.Spec PyProof.Rows

def addAll : List Txt → List Txt → List Txt
  | [], ks => ks
  | t :: ts, ks => addAll ts (addT t ks)
theorem addT_len (k : Txt) (ks : List Txt) : (addT k ks).length ≤ ks.length + 1 := by
  unfold addT; split <;> simp
theorem addT_mem (k : Txt) (ks : List Txt) (z : Txt) : z ∈ addT k ks ↔ z = k ∨ z ∈ ks := by
  unfold addT
  split
  · rename_i h
    exact ⟨.inr, fun q => q.elim (fun e => by rw [e]; exact h) id⟩
  · exact List.mem_cons
theorem addAll_mem : ∀ (ts ks : List Txt) (z : Txt), z ∈ addAll ts ks ↔ z ∈ ts ∨ z ∈ ks
  | [], ks, z => by simp [addAll]
  | t :: ts, ks, z => by
    rw [addAll, addAll_mem ts, addT_mem, List.mem_cons]
    constructor
    · rintro (h | h | h)
      · exact .inl (.inr h)
      · exact .inl (.inl h)
      · exact .inr h
    · rintro ((h | h) | h)
      · exact .inr (.inl h)
      · exact .inl h
      · exact .inr (.inr h)
theorem addT_nodup {k : Txt} {ks : List Txt} (h : ks.Nodup) : (addT k ks).Nodup := by
  unfold addT
  split
  · exact h
  · rename_i q; exact List.nodup_cons.mpr ⟨q, h⟩
theorem addAll_nodup : ∀ (ts : List Txt) {ks : List Txt}, ks.Nodup → (addAll ts ks).Nodup
  | [], _, h => h
  | t :: ts, _, h => addAll_nodup ts (addT_nodup h)
theorem addAll_len : ∀ (ts ks : List Txt), (addAll ts ks).length ≤ ks.length + ts.length
  | [], ks => by simp [addAll]
  | t :: ts, ks => by
    have h1 := addAll_len ts (addT t ks)
    have h2 := addT_len t ks
    rw [addAll, List.length_cons]; omega
theorem sort_addAll (ts : List Txt) : sortT (addAll ts []) = sortU ts := by
  refine sort_uniq (sortT_sorted _) (lt_le (sortU_sorted ts)) ?_
  refine (sortT_perm _).trans ?_
  rw [List.perm_ext_iff_of_nodup (addAll_nodup ts List.nodup_nil) (lt_nodup (sortU_sorted ts))]
  intro z
  rw [addAll_mem, sortU_mem]; simp

section
variable {prog : Program} {w : World} {A : Around} {R : Result → Shared → Prop} {I : Addr} {fp wr : List Addr} {G : Array GenState → Array GenState → Prop} {n : Nat} {Pv : Nat → Value → Prop} {St : Nat → Shared → Prop}
/-- the loop that fills a set -/
theorem fill_tab (W : WalksS prog w A.in1 I fp wr G n Pv St) (S : Addr) (nf : S ∉ fp) (ts : List Txt) (hn : ts.length = n) (small : n + 1 < scanBound)
    (val : ∀ i v, Pv i v → ∃ z k, v = .str z k ∧ ts[i]? = some z.cps.toList) :
    ∀ (k i : Nat) (ks : List Txt) (s : Shared), n - i = k → i ≤ n → ks.length ≤ i → St i s → SetTx w s.heap S ks →
      (∀ s1, Moved (S :: wr) G s s1 → SetTx w s1.heap S (addAll (ts.drop i) ks) → R (.ok (.ret .none)) s1) →
      codeAny (model prog w) A (.builtin "set.update.loop" ⟨[.ref S, .ref I], []⟩) R s := by
  have nw : S ∉ wr := fun h => nf (W.sub _ h)
  have more : ∀ b ∈ wr, b ∈ S :: wr := fun b hb => List.mem_cons_of_mem _ hb
  intro k
  induction k with
  | zero =>
    intro i ks s hk hi hl at_ T hR
    have e : i = n := by omega
    subst e
    refine codeAny_builtin PyProof.Rows.F.entry_set_update_loop ?_
    rw [Around.under_plainId PyProof.Rows.F.plain_set_update_loop _]
    show wpAny _ A.in1 (pyNext (.ref I) >>= _) _ _ s
    refine wpAny_bind (W.done s _ _ at_ fun s1 mv => ?_)
    show wpAny _ A.in1 (ret Value.none) _ _ s1
    refine wpAny_pure (hR s1 (mv.mono more) ?_)
    rw [List.drop_of_length_le (by omega)]
    exact T.at fun o q => mv.heap S o nw q
  | succ k ih =>
    intro i ks s hk hi hl at_ T hR
    have lt : i < n := by omega
    refine codeAny_builtin PyProof.Rows.F.entry_set_update_loop ?_
    rw [Around.under_plainId PyProof.Rows.F.plain_set_update_loop _]
    show wpAny _ A.in1 (pyNext (.ref I) >>= _) _ _ s
    refine wpAny_bind (W.item i s _ _ lt at_ fun v s1 pv at1 mv => ?_)
    obtain ⟨z, tk, rfl, ez⟩ := val i v pv
    have T1 : SetTx w s1.heap S ks := T.at fun o q => mv.heap S o nw q
    show wpAny _ A.in1 (holding [Value.str z tk] (setAdd S (.str z tk)) >>= _) _ _ s1
    refine wpAny_bind (wpAny_holding ?_)
    unfold setAdd
    refine wpAny_holding (wpAny_bind ((PySem.strKind prog w).pyHash (k := z) (strKind_is _ _ _ _) ?_))
    refine add_tab (s := { s1 with toks := s1.toks + 1 }) T1 (by omega) fun b h1 sb T2 => ?_
    have e : ts.drop i = z.cps.toList :: ts.drop (i + 1) := by
      obtain ⟨hi2, e2⟩ := List.getElem?_eq_some_iff.mp ez
      rw [List.drop_eq_getElem_cons hi2, e2]
    refine wpAny_pure ⟨plainId_quiet PyProof.Rows.F.plain_set_update_loop _, ih (i + 1) _ _ (by omega) lt (Nat.le_trans (addT_len _ _) (by omega)) (W.frame _ s1 _ _ at1 (Nat.le_succ _) fun b hb o q => ?_) T2 fun s2 mv2 T3 => ?_⟩
    · rw [sb.2 b (fun q2 : b = S => nf (by rw [← q2]; exact hb))]; exact q
    · refine hR s2 (Moved.trans W.gtrans ((mv.mono more).then_heap (Nat.le_succ _) fun b o hb q => ?_) mv2) ?_
      · rw [sb.2 b (fun q2 : b = S => hb (by rw [q2]; exact List.mem_cons_self))]; exact q
      · rw [e, addAll]; exact T3
end

section
variable {prog : Program} {w : World} {A : Around} {E : Value → Shared → Prop} {s : Shared}
theorem fresh_tab {h : Heap} (w : World) : SetTx w (h.push { cls := .type "set", dict := none, data := .set #[] 0 (.fresh 0 0 (!w.params.followText "set-order")) }) h.objs.size [] := by
  refine ⟨_, #[], 0, _, Heap.get?_push_size _ rfl, ⟨rfl, rfl, rfl⟩, rfl, fun e he => by simp at he, .refl _, List.nodup_nil, by decide, by rfl, List.Pairwise.nil, ?_⟩
  show _ ∨ (!w.params.followText "set-order") = true
  cases w.params.followText "set-order"
  · exact .inr rfl
  · exact .inl rfl
theorem new_led (x : Value) {Q1 : Value → Shared → Prop}
    (h : Q1 (.ref s.heap.objs.size) { s with heap := s.heap.push { cls := .type "set", dict := none, data := .set #[] 0 (.fresh 0 0 (!w.params.followText "set-order")) } }) :
    codeAny (model prog w) A (.call (.builtin "set.__new__") ⟨[.type "set", x], []⟩) (wants Q1 E) s := by
  refine codeAny_of_tree ?_
  show wpAny _ A.in1 (do checkBuiltinCall "set.__new__" ⟨[.type "set", x], []⟩; again (.builtin "set.__new__" ⟨[.type "set", x], []⟩)) _ _ s
  refine wpAny_bind (wpAny_of_eq (PySem.F.newCall_set_1 x) (wpAny_pure ⟨plainId_quiet PySem.F.plain_set_new _, codeAny_builtin PySem.F.entry_set_new ?_⟩))
  rw [Around.under_plainId PySem.F.plain_set_new _]
  unfold Builtin.«set.__new__» Builtin.Frozenset.newClass
  have own := sub_set_self
  obtain ⟨h0, g0, d0, k0, o0⟩ := s
  dsimp only
  wp_walk
  refine wpAny_askSetting (wpAny_pure ?_)
  dsimp only
  simp only [newObj]
  exact wpAny_bind (wpAny_alloc (wpAny_pure (wpAny_pure h)))
abbrev setO0 (w : World) : Obj := { cls := .type "set", dict := none, data := .set #[] 0 (.fresh 0 0 (!w.params.followText "set-order")) }
/-- set(a list of texts) -/
theorem set_of {l : Addr} {its : List Value} {ts : List Txt} {Q : Value → Shared → Prop} (hh : A.handled = none) (hl : s.heap.IsList l its.toArray) (hi : StrsAre its (ts.map tx)) (small : ts.length + 1 < scanBound)
    (h : ∀ (h1 : Heap) (tk : Nat), SetTx w h1 s.heap.objs.size (addAll ts []) → (∀ b o, b < s.heap.objs.size → s.heap.get? b = some o → h1.get? b = some o) → Q (.ref s.heap.objs.size) { s with heap := h1, toks := tk }) :
    wpAny (model prog w) A (call (.type "set") [.ref l]) Q E s := by
  obtain ⟨c, tl, mro⟩ := PySem.F.called_set.mro
  have made := PySem.F.called_set.made
  have sub := PySem.F.called_set.sub
  refine wpAny_call (codeAny_of_tree ?_)
  show wpAny _ _ (callAny (.type "set") _) _ _ _
  refine wpAny_pure ⟨Code.quiet_builtin _ (by decide +kernel), codeAny_builtin PySem.F.entry_type_call ?_⟩
  rw [Around.under_plain (weight_type_call_type "set" [.ref l] []) rfl]
  have f1 := PySem.F.called_set.notType
  have f2 := PySem.F.called_set.canCreate
  have f3 := PySem.F.typeCall_set_1 (.ref l)
  repeat (any_goals (first | assumption | wp_step))
  refine codeAny_mono (new_led (.ref l) (E := E) (Q1 := fun obj s1 => obj = .ref s.heap.objs.size ∧ s1 = { s with heap := s.heap.push (setO0 w) }) ⟨rfl, rfl⟩) fun r s1 hr => ?_
  cases r with
  | error e => exact hr
  | ok fl =>
    cases fl with
    | ret obj =>
      obtain ⟨rfl, rfl⟩ := hr
      have at0 : (s.heap.push (setO0 w)).get? s.heap.objs.size = some (setO0 w) := Heap.get?_push_size _ rfl
      have ty0 : Shared.TypeIs { s with heap := s.heap.push (setO0 w) } (.ref s.heap.objs.size) "set" := ⟨_, at0, rfl⟩
      have f4 := PySem.F.called_set.init.lookup
      have f5 := PySem.F.called_set.init.bind (.ref s.heap.objs.size)
      repeat (any_goals (first | assumption | wp_step))
      refine codeAny_mono (codeAny_call_builtin (R := wants (fun r s2 => r = .none ∧ ∃ h1 tk, s2 = { s with heap := h1, toks := tk } ∧ SetTx w h1 s.heap.objs.size (addAll ts []) ∧
          (∀ b o, b < s.heap.objs.size → s.heap.get? b = some o → h1.get? b = some o)) E) PySem.F.called_set.init.plain PySem.F.entry_set_init (check_set_init_1 ty0 ?_)) fun r2 s2 hr2 => ?_
      · obtain ⟨ol, hol, hcl, nl, hdl⟩ := hl
        obtain ⟨ocls, odict, odata, oslots⟩ := ol
        simp only at hcl hdl
        subst hcl; subst hdl
        have hol1 : (s.heap.push (setO0 w)).get? l = some { cls := .type "list", dict := odict, data := .seq its.toArray nl, slots := oslots } := Heap.get?_push_of_some _ hol
        have f6 := PySem.F.sub_list_set
        have f7 := PySem.F.sub_list_frozenset
        have f8 : (Value.type "list" == Value.type "dict") = false := by decide
        have hl1 : (s.heap.push (setO0 w)).IsList l its.toArray := ⟨_, hol1, rfl, nl, rfl⟩
        unfold Builtin.«set.__init__» noKeywords Builtin.Frozenset.updateFrom
        generalize pit : pyIter = PI
        wp_walk
        subst pit
        refine wpAny_pyIter_list hl1 (wpAny_bind (wpAny_runValue ?_))
        have below : l < s.heap.objs.size := Heap.lt_size hol
        have calm3 : A.in1.in1.in1.handled = none := by simp [hh]
        have apart1 : l ≠ (s.heap.push (setO0 w)).objs.size := by
          rw [Heap.size_push]; exact Nat.ne_of_lt (Nat.lt_succ_of_lt below)
        have nf : s.heap.objs.size ∉ [(s.heap.push (setO0 w)).objs.size, l] := by
          rw [Heap.size_push]
          simp only [List.mem_cons, List.not_mem_nil, or_false, not_or]
          exact ⟨Nat.ne_of_lt (Nat.lt_succ_self _), Nat.ne_of_gt below⟩
        have hn : ts.length = its.toArray.size := by
          have := StrsAre.len_eq hi
          rw [List.length_map] at this
          rw [List.size_toArray, this]
        have val : ∀ (i : Nat) (v : Value), its.toArray[i]? = some v → ∃ z k, v = .str z k ∧ ts[i]? = some z.cps.toList := fun i v hv => by
          have hv : its[i]? = some v := by simpa using hv
          obtain ⟨t, e⟩ := SS.strs_at hi i v hv
          have lt : i < ts.length := by
            have := (List.getElem?_eq_some_iff.mp hv).1
            have e2 := StrsAre.len_eq hi
            rw [List.length_map] at e2
            omega
          refine ⟨_, t, e, ?_⟩
          simp [List.getD_eq_getElem?_getD, lt, tx_list]
        refine fill_tab ((Walks.list calm3 _ l apart1 its.toArray).toS) s.heap.objs.size nf ts hn (by rw [← hn]; exact small) val (its.toArray.size - 0) 0 [] _ (by omega) (Nat.zero_le _) (Nat.le_refl _)
          ⟨⟨_, Heap.get?_push_size _ rfl, rfl, rfl⟩, (hl1.push _)⟩ ?_ ?_
        · exact (fresh_tab (h := s.heap) w).at fun o q => Heap.get?_push_of_some _ q
        · intro s3 mv T
          obtain ⟨h3, g3, d3, k3, o3⟩ := s3
          have eg : g3 = s.gens := mv.gens
          have ed : d3 = s.drawn := mv.drawn
          have eo : o3 = s.os := mv.os
          subst eg; subst ed; subst eo
          show wpAny _ _ _ _ _ _
          refine wpAny_pure ?_
          show wpAny _ _ (ret Value.none) _ _ _
          refine wpAny_pure ⟨rfl, h3, k3, rfl, T, fun b o hb e => ?_⟩
          refine mv.heap b o ?_ (Heap.get?_push_of_some _ (Heap.get?_push_of_some _ e))
          rw [Heap.size_push]
          simp only [List.mem_cons, List.not_mem_nil, or_false, not_or]
          exact ⟨Nat.ne_of_lt hb, Nat.ne_of_lt (Nat.lt_succ_of_lt hb)⟩
      · cases r2 with
        | error e => exact hr2
        | ok fl2 =>
          cases fl2 with
          | ret r =>
            obtain ⟨rfl, h3, k3, rfl, T, keep⟩ := hr2
            repeat (any_goals (first | assumption | wp_step))
            exact h _ _ T keep
          | _ => exact hr2.elim
    | _ => exact hr.elim
end
section
variable {X : Cx}
theorem call_setT (hc : X.calm = true) : CallR X (.type "set") (fun xs H Q => ∃ l ts, xs = [.ref l] ∧ SqL X.K H l (ts.map (V.str ∘ tx)) ∧ ts.length + 1 < scanBound ∧ ∀ p, H p = none → Q (.ref p) (upd H p (SetX X.w p (addAll ts [])))) := by
  intro pins s σ H xs us Q I r h
  obtain ⟨l, ts, rfl, hl, hn, q⟩ := h
  rw [Vals.ref1 r]
  obtain ⟨its, rv, pl, _⟩ := I.list hl
  have S : StrsAre its (ts.map tx) := by
    rw [← List.map_map] at rv
    exact rv.strs
  refine set_of (I.ok.hd hc) pl.isList S hn fun h1 tk T keep => ?_
  exact ⟨.ref _, upd H s.heap.objs.size (SetX X.w s.heap.objs.size (addAll ts [])), I.laid (t' := tk) (fun b o e => keep b o (Heap.lt_size e) e) (Nat.le_refl _) (setX_new T), rfl, q _ (I.hok.fresh (Nat.le_refl _))⟩
end
end Mi
namespace Mi
open PySem L2

/-! the check of a compact text against the row's own -/
structure CC where
  N : List Str
  sc : Scope
  fn : Str → Bool
  lam : Bool
def kindIn (c : CC) (x : Str) : Option NameKind := c.sc.names.lookup x
def visB (c : CC) (x : Str) : Bool := match kindIn c x with
  | some .local => true | some .cell => true | some .free => true | _ => false
def glB (c : CC) (x : Str) : Bool := match kindIn c x with
  | some .globalImplicit => true | _ => false
def tgB (c : CC) (x : Str) : Bool := match kindIn c x with
  | some .local => true | some .cell => c.fn x | _ => false
def noDbg (x : Str) : Bool := !decide (x = ("__debug__" : Str)) && !decide (x = ("__classdict__" : Str)) && !decide (x = ("__name__" : Str))
def noStar : Expr → Bool
  | .Starred _ _ => false | _ => true
def plainTest : Expr → Bool
  | .UnaryOp .Not _ _ => false | .BoolOp _ _ _ => false | .IfExp _ _ _ _ => false | .Compare _ _ _ _ => false | _ => true
def noSlice : Expr → Bool
  | .Slice _ _ _ _ => false | _ => true
def noSet : Expr → Bool
  | .Set _ _ _ => false | _ => true
def noCall : Expr → Bool
  | .Call _ (_ :: _) _ _ => true | .Call _ _ _ _ => false | _ => true
def noComp : Expr → Bool
  | .ListComp _ _ _ _ => false | .SetComp _ _ _ _ => false | .DictComp _ _ _ _ _ => false | _ => true
def litB : Val → Const → Bool
  | .non, .none => true
  | .bl b, .bool c => b == c
  | .int i, .int j => decide (i = j)
  | .str s, .str z => decide (tx s = z) && decide (s.length ≤ sizeLine)
  | _, _ => false
def boB : BO → Operator → Bool
  | .add, .Add => true | .sub, .Sub => true | .mul, .Mult => true | .fdiv, .FloorDiv => true | .mod, .Mod => true | .pow, .Pow => true | _, _ => false
def coB : CO → CmpOp → Bool
  | .eq, .Eq => true | .ne, .NotEq => true | .lt, .Lt => true | .le, .LtE => true | .gt, .Gt => true | .ge, .GtE => true | .isin, .In => true | .notin, .NotIn => true | _, _ => false
def foN : FO → String
  | .len => "len" | .abs => "abs" | .sum => "sum" | .int => "int" | .str => "str" | .list => "list" | .tuple => "tuple" | .sorted => "sorted" | .all => "all" | .any => "any" | .max => "max" | .min => "min" | .dict => "dict" | .ssort => "" | .lset => ""
/-- a built-in's name -/
def bltB (c : CC) (x : Str) (n : String) : Bool := glB c x && decide (x = (n : Str))
def tgOk (c : CC) : Tg → Expr → Bool
  | .nm i, .Name x _ => decide (c.N[i]? = some x) && tgB c x && noDbg x
  | .tp is, .Tuple es _ _ => is.length == es.length && (is.zip es).all fun p => match p.2 with
    | .Name x _ => decide (c.N[p.1]? = some x) && tgB c x && noDbg x
    | _ => false
  | _, _ => false

structure Ck where
  v : Expr → Bool
  s : List Expr → Bool
  o : Option Expr → Bool
  i : Expr → Bool
def ckV (v : Expr → Bool) : Ck where
  v := v
  s := fun _ => false
  o := fun e => match e with
    | some e => v e
    | none => false
  i := v
def ck0 : Ck := ⟨fun _ => false, fun _ => false, fun _ => false, fun _ => false⟩
/-- the keys and values of a display, one behind the other -/
def pairL : List (Option Expr) → List Expr → Option (List Expr)
  | [], [] => some []
  | some k :: ks, v :: vs => (pairL ks vs).map fun r => k :: v :: r
  | _, _ => none
def blkCC (c : CC) (scope : Scope) : CC := ⟨c.N, relS scope c.sc, fun x => scope.names.lookup x == some .cell, false⟩
def ownOf (c : CC) (vs : List Nat) : List (Str × Nat) := vs.map fun i => ((c.N[i]?).getD Str.empty, i)

def tgIn : Tg → List Nat → Bool
  | .nm i, vs => vs.contains i
  | .tp is, vs => is.all vs.contains
def yesB : Ex → Bool
  | .lit (.bl true) => true
  | _ => false
def chk (p : Prg) : Ex → CC → Ck
  | .bad, _ => ⟨fun _ => true, fun _ => false, fun _ => false, fun _ => false⟩
  | .var i, c => ckV fun e => match e with
    | .Name x _ => decide (c.N[i]? = some x) && visB c x && noDbg x
    | _ => false
  | .lit v, _ => ckV fun e => match e with
    | .Constant k _ _ => litB v k
    | _ => false
  | .glb i, c => ckV fun e => match e with
    | .Name x _ => glB c x && noDbg x && (match p.gs[i]? with | some g => decide (x = tx g.1) | none => false)
    | _ => false
  | .nil, _ => { ck0 with s := fun es => es.isEmpty, o := fun e => e.isNone }
  | .cons a as, c => { ck0 with s := fun es => match es with
    | e :: es => noStar e && (chk p a c).v e && (chk p as c).s es
    | [] => false }
  | .tup as, c => ckV fun e => match e with
    | .Tuple es _ _ => (chk p as c).s es
    | _ => false
  | .lst as, c => ckV fun e => match e with
    | .List es _ => (chk p as c).s es
    | _ => false
  | .new as, c => ckV fun e => match e with
    | .List es _ => (chk p as c).s es
    | _ => false
  | .dsp as, c => ckV fun e => match e with
    | .Dict ks vs _ => (match pairL ks vs with | some es => (chk p as c).s es && decide (ks.length ≤ 15) | none => false)
    | _ => false
  | .dnew as, c => ckV fun e => match e with
    | .Dict ks vs _ => (match pairL ks vs with | some es => (chk p as c).s es && decide (ks.length ≤ 15) | none => false)
    | _ => false
  | .bin o a b, c => ckV fun e => match e with
    | .BinOp x op y _ => boB o op && (chk p a c).v x && (chk p b c).v y
    | _ => false
  | .cmp o a b, c => ckV fun e => match e with
    | .Compare x [op] [y] _ => coB o op && noSet y && (chk p a c).v x && (chk p b c).v y
    | _ => false
  | .isN yes a, c => ckV fun e => match e with
    | .Compare x [op] [.Constant .none _ _] _ => decide (op = if yes then CmpOp.Is else CmpOp.IsNot) && (chk p a c).v x
    | _ => false
  | .isB yes b a, c => ckV fun e => match e with
    | .Compare x [op] [.Constant (.bool b') _ _] _ => decide (op = if yes then CmpOp.Is else CmpOp.IsNot) && decide (b' = b) && (chk p a c).v x
    | _ => false
  | .neg a, c => ckV fun e => match e with
    | .UnaryOp .USub x _ => (chk p a c).v x
    | _ => false
  | .and a b, c => ckV fun e => match e with
    | .BoolOp .And [x, y] _ => (chk p a c).v x && (chk p b c).v y
    | .BoolOp .And (x :: y :: z :: r) pos => (chk p a c).v x && (chk p b c).v (.BoolOp .And (y :: z :: r) pos)
    | _ => false
  | .or a b, c => ckV fun e => match e with
    | .BoolOp .Or [x, y] _ => (chk p a c).v x && (chk p b c).v y
    | .BoolOp .Or (x :: y :: z :: r) pos => (chk p a c).v x && (chk p b c).v (.BoolOp .Or (y :: z :: r) pos)
    | _ => false
  | .not a, c => ckV fun e => match e with
    | .UnaryOp .Not x _ => (chk p a c).v x
    | _ => false
  | .ite t a b, c => ckV fun e => match e with
    | .IfExp x y z _ => (chk p t c).v x && (chk p a c).v y && (chk p b c).v z
    | _ => false
  | .chain o1 o2 a b d, c => ckV fun e => match e with
    | .Compare x [op1, op2] [y, z] _ => coB o1 op1 && coB o2 op2 && noSet y && noSet z && (chk p a c).v x && (chk p b c).v y && (chk p d c).v z
    | _ => false
  | .ix a b, c => ckV fun e => match e with
    | .Subscript x y _ => noSlice y && (chk p a c).v x && (chk p b c).v y
    | _ => false
  | .sl a lo hi, c => ckV fun e => match e with
    | .Subscript x (.Slice l h none _) _ => (chk p a c).v x && (chk p lo c).o l && (chk p hi c).o h
    | _ => false
  | .fn .ssort as, c => ckV fun e => match e with
    | .Call (.Name f _) [.Call (.Name g _) [x] [] _] [] _ => bltB c f "sorted" && bltB c g "set" && (chk p as c).s [x]
    | _ => false
  | .fn .lset _, _ => ck0
  | .fn f as, c => ckV fun e => match e with
    | .Call (.Name x _) (y :: ys) [] _ => bltB c x (foN f) && (chk p as c).s (y :: ys)
    | _ => false
  | .lnew a, c => ckV fun e => match e with
    | .Call (.Name x _) [y] [] _ => bltB c x "list" && noStar y && (chk p a c).v y
    | _ => false
  | .dcpy a, c => ckV fun e => match e with
    | .Call (.Name x _) [y] [] _ => bltB c x "dict" && noStar y && (chk p a c).v y
    | _ => false
  | .sortK a, c => ckV fun e => match e with
    | .Call (.Name f _) [x] [⟨some k, .Lambda ⟨[], [⟨y, none, _⟩], none, [], [], none, []⟩ (.Subscript (.Name y1 _) (.Constant (.int 0) _ _) _) ⟨.function, [(y2, .local)], false, false, []⟩ _, _⟩] _ =>
        c.lam && bltB c f "sorted" && noStar x && decide (k = Str.ofString "key") && decide (y1 = y) && decide (y2 = y) && noDbg y && (chk p a c).v x
    | _ => false
  | .mt m o as, c => ckV fun e => match e with
    | .Call (.Attribute x n ap) ys [] cp => decide (n = (moN m : Str)) && noCall x && (ap.endLine == cp.line) && !decide (m = .items) && !decide (m = .index) && (chk p o c).v x && (chk p as c).s ys && decide (ys.length < 29)
    | _ => false
  | .dget _ _ _, _ => ck0
  | .isi t a, c => ckV fun e => match e with
    | .Call (.Name x _) [y, .Name z _] [] _ => bltB c x "isinstance" && bltB c z (tyS t) && noStar y && (chk p a c).v y
    | _ => false
  | .call f as, c => ckV fun e => match e with
    | .Call (.Name x _) ys [] _ => glB c x && noDbg x && (match p.fns[f]? with | some d => decide (x = tx d.name) | none => false) && (chk p as c).s ys
    | _ => false
  | .rng1 a, c => { ck0 with i := fun e => match e with
    | .Call (.Name x _) [y] [] _ => bltB c x "range" && noStar y && (chk p a c).v y
    | _ => false }
  | .rng2 a b, c => { ck0 with i := fun e => match e with
    | .Call (.Name x _) [y, z] [] _ => bltB c x "range" && noStar y && noStar z && (chk p a c).v y && (chk p b c).v z
    | _ => false }
  | .lc vs tg it t el, c => ckV fun e => match e with
    | .ListComp elt [⟨tgt, iter, ifs, 0⟩] scope _ => noSet iter && (chk p it c).i iter && blkC c.N c.sc scope (ownOf c vs) && tgOk (blkCC c scope) tg tgt && tgIn tg vs &&
        (chk p el (blkCC c scope)).v elt && (match ifs with
          | [] => yesB t
          | [x] => (chk p t (blkCC c scope)).v x
          | _ => false)
    | _ => false
  | .lcn vs tg it t el, c => ckV fun e => match e with
    | .ListComp elt [⟨tgt, iter, ifs, 0⟩] scope _ => noSet iter && (chk p it c).i iter && blkC c.N c.sc scope (ownOf c vs) && tgOk (blkCC c scope) tg tgt && tgIn tg vs &&
        (chk p el (blkCC c scope)).v elt && (match ifs with
          | [] => yesB t
          | [x] => (chk p t (blkCC c scope)).v x
          | _ => false)
    | _ => false
end Mi
namespace Mi
open PySem L2

def spF (g : Gd) (p : Prg) (n f : Nat) : Sp := fun vs H Q E => ∃ ρ st as, Wd g ρ st H ∧ Rels g ρ H as vs ∧ (∃ d, p.fns[f]? = some d ∧ as.length = d.ps.length) ∧
  Post g E ρ H (callN p n f as st) fun v ρ' _ H' => ∀ V, Rel g ρ' H' v V → Q V H'
def bnames : List String := ["len", "abs", "sum", "int", "str", "list", "tuple", "sorted", "all", "any", "max", "min", "dict", "set", "range", "isinstance", "bool"]

structure CxS (g : Gd) (p : Prg) (n : Nat) (c : CC) (W : WX) (X : Cx) : Prop where
  K : X.K = g.K
  N : X.N = c.N
  nd : c.N.Nodup
  sc : X.env.scope = c.sc
  fk : c.sc.kind = .function
  fn : ∀ x, c.fn x = true → X.fn x = true
  calm : X.calm = true
  room : Room n X.A
  tk : Takes X W
  po : PassesOwn (model X.prog X.w) X.A X.env X.xe
  bl : ∀ x ∈ bnames, X.mg (x : Str) = none
  lam : c.lam = true → ∃ cA P, X.env.code = .ref cA ∧ LamX.TabB X.base X.mg cA P ∧ (P, X.env.qual ++ ("<lambda>" : Str)) ∈ g.tb ∧ ∀ q ∈ g.tb, q.1 = P → q.2 = X.env.qual ++ ("<lambda>" : Str)
  gs : ∀ (i : Nat) (q : Txt × Val), p.gs[i]? = some q → ∃ u V, X.mg (tx q.1) = some u ∧ RelV V u ∧ ∀ ρ H, Rel g ρ H q.2 V
  fns : ∀ (f : Nat) (d : Def), p.fns[f]? = some d → ∃ fa fd, FnOk X.prog X.w X.K X.mg X.base (L2.CX X.prog X.w) n fa fd (d.ps.map tx) (spF g p n f) ∧ X.mg (tx d.name) = some (.ref fa) ∧ PySem.W.keepIn X.K (.ref fa) = true ∧ Binds X.K fd (d.ps.map tx) []

def seqR : List (Env → Store → Res Val) → Env → Store → Res (List Val)
  | [], _, st => .ok [] st
  | f :: fs, η, st => (f η st).bind fun v st => (seqR fs η st).bind fun vs st => .ok (v :: vs) st
inductive PEs (g : Gd) (W : WX) (X : Cx) : List Expr → List (Env → Store → Res Val) → Prop where
  | nil : PEs g W X [] []
  | cons {e f es fs} (h : PE X e (SE g W f)) (t : PEs g W X es fs) : PEs g W X (e :: es) (f :: fs)
structure Snd (g : Gd) (p : Prg) (n : Nat) (c : CC) (W : WX) (X : Cx) (ex : Ex) : Prop where
  v : ∀ e, (chk p ex c).v e = true → PE X e (SE g W (evA ⟨callN p n, p.gs⟩ ex).v)
  t : ∀ e, (chk p ex c).v e = true → PT X e (STt g W (evA ⟨callN p n, p.gs⟩ ex).t)
  w : ∀ op vs pos, (chk p ex c).v (.BoolOp op vs pos) = true → PW X (.BoolOp op vs pos) (STt g W (evA ⟨callN p n, p.gs⟩ ex).t)
  s : ∀ es, (chk p ex c).s es = true → (∀ e ∈ es, noStar e = true) ∧ PA X es (SA g W (evA ⟨callN p n, p.gs⟩ ex).s)
  o : ∀ oe, (chk p ex c).o oe = true → PO X oe (SO g W (evA ⟨callN p n, p.gs⟩ ex).o)
  i : ∀ tg e, (chk p ex c).i e = true → PI X tg e (SI g W (evA ⟨callN p n, p.gs⟩ ex).i)
  l : ∀ es, (chk p ex c).s es = true → ∃ fs, PEs g W X es fs ∧ (evA ⟨callN p n, p.gs⟩ ex).s = seqR fs

section
variable {g : Gd} {p : Prg} {n : Nat} {c : CC} {W : WX} {X : Cx}
/-! small facts of a context -/
theorem CxS.gl (S : CxS g p n c W X) {x : Str} (h : glB c x = true) : Gl X x := by
  unfold glB kindIn at h
  show X.env.scope.names.lookup x = _
  rw [S.sc]
  split at h
  · assumption
  · cases h
theorem CxS.vis (S : CxS g p n c W X) {x : Str} (h : visB c x = true) : Vis X.env.scope x := by
  unfold visB kindIn at h
  rw [S.sc]
  split at h
  · exact .inl (by assumption)
  · exact .inr (.inl (by assumption))
  · exact .inr (.inr (by assumption))
  · cases h
theorem CxS.tg (S : CxS g p n c W X) {x : Str} (h : tgB c x = true) : Loc X.env.scope x ∧ (X.fn x = true ∨ X.env.scope.names.lookup x = some .local) := by
  unfold tgB kindIn at h
  rw [S.sc]
  split at h
  · rename_i e; exact ⟨.inl e, .inr e⟩
  · rename_i e; exact ⟨.inr e, .inl (S.fn x h)⟩
  · cases h
theorem CxS.units (S : CxS g p n c W X) : X.A.units + 64 < cLine := S.room.units
theorem dbg_of {x : Str} (h : noDbg x = true) : (x == ("__debug__" : Str)) = false ∧ (x == ("__classdict__" : Str)) = false ∧ x ≠ ("__name__" : Str) := by
  unfold noDbg at h
  simp only [Bool.and_eq_true, Bool.not_eq_true', decide_eq_false_iff_not] at h
  refine ⟨?_, ?_, h.2⟩
  · simpa using h.1.1
  · simpa using h.1.2
theorem blt_of (S : CxS g p n c W X) {x : Str} {m : String} (h : bltB c x m = true) (hm : m ∈ bnames) : Gl X x ∧ X.mg x = none ∧ x = (m : Str) := by
  unfold bltB at h
  simp only [Bool.and_eq_true, decide_eq_true_eq] at h
  exact ⟨S.gl h.1, by rw [h.2]; exact S.bl m hm, h.2⟩
theorem star_cons {e : Expr} {es : List Expr} {env : PySem.Env} (h : noStar e = true) : starEach (e :: es) env = (false, eval e env) :: starEach es env := by
  cases e <;> first | rfl | cases h
theorem star_any {es : List Expr} {env : PySem.Env} {pos : Pos} (h : ∀ e ∈ es, noStar e = true) : (backTo pos (starEach es env)).any (·.1) = false := by
  induction es with
  | nil => rfl
  | cons e es ih =>
    rw [star_cons (h e List.mem_cons_self)]
    show (false || (backTo pos (starEach es env)).any (·.1)) = false
    rw [ih fun z hz => h z (List.mem_cons_of_mem _ hz)]; rfl
theorem star_all {es : List Expr} {env : PySem.Env} {pos : Pos} (h : ∀ e ∈ es, noStar e = true) : (backTo pos (starEach es env)).all (fun x => !x.1) = true := by
  induction es with
  | nil => rfl
  | cons e es ih =>
    rw [star_cons (h e List.mem_cons_self)]
    show (true && (backTo pos (starEach es env)).all (fun x => !x.1)) = true
    rw [ih fun z hz => h z (List.mem_cons_of_mem _ hz)]; rfl
theorem isTrue_plain {e : Expr} {env : PySem.Env} (h : plainTest e = true) : ∀ whole, isTrue e env whole = (do let v ← whole; standAt e.pos; holding [v] (truthy v)) := by
  intro whole
  cases e with
  | UnaryOp op x pos => cases op <;> first | rfl | cases h
  | _ => first | rfl | cases h
theorem plainIx {b : Expr} (h : noSlice b = true) : PlainIx b := by
  intro o i
  cases b <;> first | rfl | cases h
theorem noMarks {op : CmpOp} {b : Expr} (h : noSet b = true) : behindInMarks op b = false := by
  cases b <;> first | rfl | cases h
theorem noFold {e : Expr} {env : PySem.Env} (h : noSet e = true) : ∀ x, foldedSetIterable e env x = pure x := by
  intro x
  cases e <;> first | rfl | cases h

/-! tests, parts, walks of a plain value -/
theorem stt_se {F : Env → Store → Res Val} {σ : St} {H : Hp} {Q : Bool → Hp → Prop} (h : STt g W (plain F).t σ H Q) : SE g W F σ H fun x H1 => ∃ b, x = .bl b ∧ Q b H1 := by
  obtain ⟨ρ, st, η, w, s, q⟩ := h
  refine ⟨ρ, st, η, w, s, Post.imp (Post.bind q) fun v ρ1 st1 H1 e1 w1 q1 V rv => ?_⟩
  obtain ⟨b, hb, q2⟩ := Post.opt q1
  cases v <;> simp only [truth, reduceCtorEq, Option.some.injEq] at hb
  subst hb
  simp only [Rel] at rv
  exact ⟨_, rv, q2 ρ1 H1 Ext.refl w1⟩
theorem pt_plain {F : Env → Store → Res Val} {e : Expr} (h : PE X e (SE g W F)) (hp : plainTest e = true) : PT X e (STt g W (plain F).t) :=
  PT.imp (pt_val h (isTrue_plain hp)) fun σ H Q q => stt_se q
theorem so_se {F : Env → Store → Res Val} {σ : St} {H : Hp} {Q : Option Int → Hp → Prop} (h : SO g W (plain F).o σ H Q) : SE g W F σ H fun x H1 => ∃ i, x = .int i ∧ Q (some i) H1 := by
  obtain ⟨ρ, st, η, w, s, q⟩ := h
  refine ⟨ρ, st, η, w, s, Post.imp (Post.bind q) fun v ρ1 st1 H1 e1 w1 q1 V rv => ?_⟩
  cases v with
  | int i =>
    simp only [Rel] at rv
    exact ⟨i, rv, q1 ρ1 H1 Ext.refl w1⟩
  | _ => exact (show False from q1).elim
theorem PO.imp {e : Option Expr} {t t' : TO} (h : PO X e t) (k : ∀ σ H Q, t' σ H Q → t σ H Q) : PO X e t' := ⟨fun pins s σ H Q I q => h.run pins s σ H Q I (k _ _ _ q)⟩
theorem po_plain {F : Env → Store → Res Val} {e : Expr} (h : PE X e (SE g W F)) : PO X (some e) (SO g W (plain F).o) :=
  PO.imp (po_some h) fun σ H Q q => so_se q

/-! iterators -/
theorem ck_none {xs : List Val} {st : Store} : ckOf none xs st = true := rfl
theorem wk_list {ρ : List Addr} {H : Hp} {m : Option Nat} {xs : List Val} {a : Addr} (hK : X.K = g.K) (h : ∀ ρ' st' H', Ext ρ H ρ' H' → Wd g ρ' st' H' → ckOf m xs st' = true → ∃ vs, SqL g.K H' a vs ∧ Rels g ρ' H' xs vs) :
    Wk g (Itl X.K a) m xs ρ H := by
  intro ρ' st' H' e w ck
  obtain ⟨vs, h1, h2⟩ := h ρ' st' H' e w ck
  refine ⟨fun i x hx => ?_, fun i hi => ⟨vs, hK ▸ h1, by rw [← h2.length]; exact hi⟩⟩
  obtain ⟨v, hv, rv⟩ := h2.get hx
  refine ⟨⟨vs, v, hK ▸ h1, hv⟩, fun V H2 y => ?_⟩
  obtain ⟨e2, y⟩ := y
  have := y vs (hK ▸ h1)
  rw [hv] at this
  cases this
  exact ⟨e2, rv⟩
theorem wk_tup {ρ : List Addr} {H : Hp} {xs : List Val} {a : Addr} {vs : List V} (hK : X.K = g.K) (h : H a = some (.tup vs) ∨ KTup g.K a vs) (r : Rels g ρ H xs vs) : Wk g (Itt X.K a) none xs ρ H := by
  intro ρ' st' H' e w ck
  have h1 : SqT X.K H' a vs := by
    rw [hK]
    rcases h with h | h
    · exact .inl (.inl (e.tup _ _ h))
    · exact .inr h
  have h2 := r.ext e
  refine ⟨fun i x hx => ?_, fun i hi => ⟨vs, h1, by rw [← h2.length]; exact hi⟩⟩
  obtain ⟨v, hv, rv⟩ := h2.get hx
  refine ⟨⟨vs, v, h1, hv⟩, fun V H2 y => ?_⟩
  obtain ⟨e2, y⟩ := y
  have := y vs h1
  rw [hv] at this
  cases this
  exact ⟨e2, rv⟩
theorem wk_str {ρ : List Addr} {H : Hp} {s : Txt} (hl : s.length ≤ sizeLine) : Wk g (Its (tx s)) none (s.map fun c => .str [c]) ρ H := by
  intro ρ' st' H' e w ck
  refine ⟨fun i x hx => ?_, fun i hi => ?_⟩
  · rw [List.getElem?_map] at hx
    cases q : s[i]? with
    | none => rw [q] at hx; cases hx
    | some d =>
      rw [q] at hx
      cases hx
      have hq : (tx s).cps[i]? = some d := by simpa [tx] using q
      refine ⟨?_, fun V H2 y => ?_⟩
      · have := (List.getElem?_eq_some_iff.mp q).1
        show i < (tx s).cps.size
        simpa [tx] using this
      · obtain ⟨e2, c', hc, rfl⟩ := y
        rw [hq] at hc
        cases hc
        exact ⟨e2, rel_str (x := [d]) (show 1 ≤ sizeLine by decide)⟩
  · show (tx s).cps.size ≤ i
    rw [List.length_map] at hi
    simpa [tx] using hi
theorem wk_keys {ρ : List Addr} {H : Hp} {ks : List Txt} {d : Addr} {o : Obj} {kvs : List (Key × V)} (h : H d = some (.frz o (.dK kvs))) (e0 : kvs.map (·.1) = ks.map tk) (hk : KsOk ks) : Wk g (Itk d o kvs) none (ks.map .str) ρ H := by
  intro ρ' st' H' e w ck
  have h1 := e.frz _ _ _ h
  have hl : kvs.length = ks.length := by
    have := congrArg List.length e0
    simpa using this
  refine ⟨fun i x hx => ?_, fun i hi => ⟨h1, by rw [List.length_map] at hi; omega⟩⟩
  rw [List.getElem?_map] at hx
  cases q : ks[i]? with
  | none => rw [q] at hx; cases hx
  | some t =>
    rw [q] at hx
    cases hx
    have lt := (List.getElem?_eq_some_iff.mp q).1
    refine ⟨⟨h1, by omega⟩, fun V H2 y => ?_⟩
    obtain ⟨e2, k, v, hkv, rfl⟩ := y
    have q2 : (kvs.map (·.1))[i]? = some k := by rw [List.getElem?_map, hkv]; rfl
    rw [e0, List.getElem?_map, q] at q2
    cases q2
    exact ⟨e2, rel_str (hk t (List.mem_of_getElem? q))⟩
theorem pi_plain {F : Env → Store → Res Val} {e tg : Expr} (S : CxS g p n c W X) (h : PE X e (SE g W F)) : PI X tg e (SI g W (plain F).i) := by
  refine ⟨fun pins s σ H R I q => ?_⟩
  obtain ⟨ρ, st, η, w, sl, q⟩ := q
  have hK := S.K
  have q1 := Post.bind q
  -- the value's form is known ahead
  cases hF : F η st with
  | no =>
    rw [hF] at q1
    exact (show False from q1).elim
  | ex x st1 =>
    rw [hF] at q1
    refine (pi_list h).run pins s σ H R I ⟨ρ, st, η, w, sl, ?_⟩
    rw [hF]; exact q1
  | ok x st1 =>
    rw [hF] at q1
    have fin : ∀ {ρ1 : List Addr} {H1 : Hp}, Ext ρ H ρ1 H1 → Wd g ρ1 st1 H1 → ∃ r, itemsOf st1 x = some r ∧ (ckOf r.2 r.1 st1 = true ∧ ∀ J, Wk g J r.2 r.1 ρ1 H1 → R J H1) := fun {ρ1 H1} e1 w1 => by
      obtain ⟨r, hr, q2⟩ := Post.opt (q1 ρ1 H1 e1 w1)
      exact ⟨r, hr, q2 ρ1 H1 Ext.refl w1⟩
    cases x with
    | lst xs =>
      refine (pi_list h).run pins s σ H R I ⟨ρ, st, η, w, sl, ?_⟩
      rw [hF]
      intro ρ1 H1 e1 w1 V rv
      obtain ⟨r, hr, ck, q2⟩ := fin e1 w1
      simp only [itemsOf, Option.some.injEq] at hr
      subst hr
      simp only [Rel] at rv
      obtain ⟨a, vs, rfl, h1, _, h2⟩ := rv
      refine ⟨a, rfl, ⟨vs, hK ▸ sqL_of h1⟩, q2 _ (wk_list hK fun ρ' st' H' e' w' _ => ?_)⟩
      refine ⟨vs, ?_, h2.ext e'⟩
      rcases h1 with ⟨o, h1⟩ | h1
      · exact .inl (.inr ⟨o, e'.frz _ _ _ h1⟩)
      · exact .inr h1
    | tup xs =>
      refine (pi_tup h).run pins s σ H R I ⟨ρ, st, η, w, sl, ?_⟩
      rw [hF]
      intro ρ1 H1 e1 w1 V rv
      obtain ⟨r, hr, ck, q2⟩ := fin e1 w1
      simp only [itemsOf, Option.some.injEq] at hr
      subst hr
      simp only [Rel] at rv
      obtain ⟨a, vs, rfl, h1, _, h2⟩ := rv
      exact ⟨a, rfl, ⟨vs, hK ▸ sqT_of h1⟩, q2 _ (wk_tup hK h1 h2)⟩
    | str t =>
      refine (pi_str h).run pins s σ H R I ⟨ρ, st, η, w, sl, ?_⟩
      rw [hF]
      intro ρ1 H1 e1 w1 V rv
      obtain ⟨r, hr, ck, q2⟩ := fin e1 w1
      simp only [itemsOf, Option.some.injEq] at hr
      subst hr
      simp only [Rel] at rv
      obtain ⟨rfl, hl⟩ := rv
      exact ⟨tx t, rfl, q2 _ (wk_str hl)⟩
    | dct ks xs =>
      refine (pi_keys h).run pins s σ H R I ⟨ρ, st, η, w, sl, ?_⟩
      rw [hF]
      intro ρ1 H1 e1 w1 V rv
      obtain ⟨r, hr, ck, q2⟩ := fin e1 w1
      simp only [itemsOf, Option.some.injEq] at hr
      subst hr
      simp only [Rel] at rv
      obtain ⟨d, kvs, rfl, ⟨o, h1⟩, _, ⟨h2, h3⟩, _⟩ := rv
      exact ⟨d, o, rfl, .inl ⟨kvs, h1, q2 _ (wk_keys h1 h2 h3)⟩⟩
    | loc m =>
      refine (pi_list h).run pins s σ H R I ⟨ρ, st, η, w, sl, ?_⟩
      rw [hF]
      intro ρ1 H1 e1 w1 V rv
      obtain ⟨r, hr, ck, q2⟩ := fin e1 w1
      simp only [Rel] at rv
      obtain ⟨a, rfl, hp⟩ := rv
      simp only [itemsOf] at hr
      split at hr
      · rename_i xs ex
        simp only [Option.some.injEq] at hr
        subst hr
        obtain ⟨vs, h1, _, h2⟩ := w1.ob m _ a ex hp
        refine ⟨a, rfl, ⟨vs, .inl (.inl h1)⟩, q2 _ (wk_list hK fun ρ' st' H' e' w' ck' => ?_)⟩
        have ex' : st'[m]? = some (.lst xs) := by
          exact @of_decide_eq_true _ (Classical.propDecidable _) ck'
        obtain ⟨pre, hpre⟩ := e'.pre
        have hp' : ρ'[m]? = some a := by
          rw [hpre, List.getElem?_append_left (List.getElem?_eq_some_iff.mp hp).1]; exact hp
        obtain ⟨vs', h1', _, h2'⟩ := w'.ob m _ a ex' hp'
        exact ⟨vs', .inl (.inl h1'), h2'⟩
      · cases hr
    | _ =>
      refine (pi_list h).run pins s σ H R I ⟨ρ, st, η, w, sl, ?_⟩
      rw [hF]
      intro ρ1 H1 e1 w1 V rv
      obtain ⟨r, hr, ck, q2⟩ := fin e1 w1
      simp [itemsOf] at hr
end
end Mi
namespace Mi
open PySem L2

section
variable {g : Gd} {p : Prg} {n : Nat} {c : CC} {W : WX} {X : Cx}
theorem snd_ck0 {ex : Ex} (hc : chk p ex c = ck0) : Snd g p n c W X ex := by
  refine ⟨fun e h => ?_, fun e h => ?_, fun op vs pos h => ?_, fun es h => ?_, fun oe h => ?_, fun tg e h => ?_, fun es h => ?_⟩ <;> (rw [hc] at h; exact nomatch (show false = true from h))
/-- from the value alone -/
theorem snd_plain (S : CxS g p n c W X) {ex : Ex} {F : Env → Store → Res Val} {ck : Expr → Bool} (hc : chk p ex c = ckV ck) (he : evA ⟨callN p n, p.gs⟩ ex = plain F) (hp : ∀ e, ck e = true → plainTest e = true) (hv : ∀ e, ck e = true → PE X e (SE g W F)) : Snd g p n c W X ex := by
  refine ⟨fun e h => ?_, fun e h => ?_, fun op vs pos h => ?_, fun es h => ?_, fun oe h => ?_, fun tg e h => ?_, fun es h => ?_⟩
  · rw [hc] at h; rw [he]; exact hv e h
  · rw [hc] at h; rw [he]; exact pt_plain (hv e h) (hp e h)
  · rw [hc] at h; exact nomatch (show false = true from hp _ h)
  · rw [hc] at h; exact nomatch (show false = true from h)
  · rw [hc] at h; rw [he]
    cases oe with
    | none => exact nomatch (show false = true from h)
    | some e => exact po_plain (hv e h)
  · rw [hc] at h; rw [he]; exact pi_plain S (hv e h)
  · rw [hc] at h; exact nomatch (show false = true from h)
theorem r2v_of {f : Store → Val → Val → Option Val} {ρ : List Addr} {st : Store} {H : Hp} {x y : Val} {V U : L2.V} {Q : VK} {E : Value → Option Addr → Hp → Prop} (w : Wd g ρ st H) (rx : Rel g ρ H x V) (ry : Rel g ρ H y U)
    (q : Post g E ρ H (opt (f st x y) st) fun v ρ' _ H' => ∀ V, Rel g ρ' H' v V → Q V H') : R2v g f V U H Q := by
  obtain ⟨v, hv, q⟩ := Post.opt q
  exact ⟨ρ, st, x, y, v, w, rx, ry, hv, q⟩
theorem rcv_of {f : Store → List Val → Option Val} {ρ : List Addr} {st : Store} {H : Hp} {xs : List Val} {vs : List V} {Q : VK} {E : Value → Option Addr → Hp → Prop} (w : Wd g ρ st H) (rx : Rels g ρ H xs vs)
    (q : Post g E ρ H (opt (f st xs) st) fun v ρ' _ H' => ∀ V, Rel g ρ' H' v V → Q V H') : RCv g f vs H Q := by
  obtain ⟨v, hv, q⟩ := Post.opt q
  exact ⟨ρ, st, xs, v, w, rx, hv, q⟩
theorem if_ok {α : Type} {b : Prop} [Decidable b] {r : Res α} {ρ : List Addr} {H : Hp} {E : Value → Option Addr → Hp → Prop} {Q : α → List Addr → Store → Hp → Prop} (h : Post g E ρ H (if b then r else .no) Q) : b ∧ Post g E ρ H r Q := by
  by_cases hb : b
  · rw [if_pos hb] at h; exact ⟨hb, h⟩
  · rw [if_neg hb] at h; exact (show False from h).elim

/-! names, constants -/
theorem snd_bad (S : CxS g p n c W X) : Snd g p n c W X .bad := by
  refine ⟨fun e _ => ⟨fun pins s σ H Q I h => ?_⟩, fun e _ => ⟨fun pins s σ H Q I h => ?_⟩, fun op vs pos _ => ⟨fun wh pins s σ H Q I h => ?_⟩, fun es h => ?_, fun oe h => ?_, fun tg e h => ?_, fun es h => ?_⟩
  · obtain ⟨_, _, _, _, _, q⟩ := h; exact (show False from q).elim
  · obtain ⟨_, _, _, _, _, q⟩ := h; exact (show False from q).elim
  · obtain ⟨_, _, _, _, _, q⟩ := h; exact (show False from q).elim
  · exact nomatch (show false = true from h)
  · exact nomatch (show false = true from h)
  · exact nomatch (show false = true from h)
  · exact nomatch (show false = true from h)
theorem snd_var (S : CxS g p n c W X) (i : Nat) : Snd g p n c W X (.var i) := by
  refine snd_plain S rfl rfl (fun e h => ?_) (fun e h => ?_)
  · cases e <;> first | rfl | exact nomatch (show false = true from h)
  · cases e with
    | Name x pos =>
      simp only [Bool.and_eq_true, decide_eq_true_eq] at h
      obtain ⟨⟨h1, h2⟩, h3⟩ := h
      obtain ⟨d1, d2, _⟩ := dbg_of h3
      refine PE.imp (pe_var (i := i) (by rw [S.N]; exact h1) (S.vis h2) d1 d2) fun σ H Q q => ?_
      obtain ⟨ρ, st, η, w, sl, q⟩ := q
      dsimp only at q
      split at q
      · rename_i v hv
        obtain ⟨V, hV, rv⟩ := sl.2 i v hv
        exact ⟨V, hV, q ρ H Ext.refl w V rv⟩
      · exact (show False from q).elim
    | _ => exact nomatch (show false = true from h)
theorem lit_rel {v : Val} {k : Const} (h : litB v k = true) : (v = .non ∧ k = .none) ∨ (∃ b, v = .bl b ∧ k = .bool b) ∨ (∃ b, v = .int b ∧ k = .int b) ∨ (∃ b, v = .str b ∧ k = .str (tx b) ∧ b.length ≤ sizeLine) := by
  cases v <;> cases k <;> first | exact nomatch (show false = true from h) | skip
  · exact .inl ⟨rfl, rfl⟩
  · exact .inr (.inl ⟨_, rfl, by rw [show _ = _ from eq_of_beq h]⟩)
  · exact .inr (.inr (.inl ⟨_, rfl, by rw [show _ = _ from of_decide_eq_true h]⟩))
  · simp only [litB, Bool.and_eq_true, decide_eq_true_eq] at h
    exact .inr (.inr (.inr ⟨_, rfl, by rw [h.1], h.2⟩))
theorem snd_lit (S : CxS g p n c W X) (v : Val) : Snd g p n c W X (.lit v) := by
  refine snd_plain S rfl rfl (fun e h => ?_) (fun e h => ?_)
  · cases e <;> first | rfl | exact nomatch (show false = true from h)
  · cases e with
    | Constant k j pos =>
      rcases lit_rel h with ⟨rfl, rfl⟩ | ⟨b, rfl, rfl⟩ | ⟨b, rfl, rfl⟩ | ⟨b, rfl, rfl, hl⟩
      · refine PE.imp pe_non fun σ H Q q => ?_
        obtain ⟨ρ, st, η, w, sl, q⟩ := q
        exact q ρ H Ext.refl w _ rel_non
      · refine PE.imp pe_bl fun σ H Q q => ?_
        obtain ⟨ρ, st, η, w, sl, q⟩ := q
        exact q ρ H Ext.refl w _ rel_bl
      · refine PE.imp pe_int fun σ H Q q => ?_
        obtain ⟨ρ, st, η, w, sl, q⟩ := q
        exact q ρ H Ext.refl w _ rel_int
      · refine PE.imp pe_str fun σ H Q q => ?_
        obtain ⟨ρ, st, η, w, sl, q⟩ := q
        exact q ρ H Ext.refl w _ (rel_str hl)
    | _ => exact nomatch (show false = true from h)
theorem snd_glb (S : CxS g p n c W X) (i : Nat) : Snd g p n c W X (.glb i) := by
  refine snd_plain S rfl rfl (fun e h => ?_) (fun e h => ?_)
  · cases e <;> first | rfl | exact nomatch (show false = true from h)
  · cases e with
    | Name x pos =>
      simp only [Bool.and_eq_true] at h
      obtain ⟨⟨h1, h2⟩, h3⟩ := h
      obtain ⟨d1, _, _⟩ := dbg_of h2
      split at h3
      · rename_i q hq
        have e := of_decide_eq_true h3
        subst e
        obtain ⟨u, V, hu, rv, rl⟩ := S.gs i q hq
        refine PE.imp (pe_glob (S.gl h1) hu rv d1) fun σ H Q qq => ?_
        obtain ⟨ρ, st, η, w, sl, qq⟩ := qq
        dsimp only at qq
        rw [hq] at qq
        exact qq ρ H Ext.refl w V (rl ρ H)
      · cases h3
    | _ => exact nomatch (show false = true from h)
/-! argument lists -/
theorem snd_nil (S : CxS g p n c W X) : Snd g p n c W X .nil := by
  refine ⟨fun e h => ?_, fun e h => ?_, fun op vs pos h => ?_, fun es h => ?_, fun oe h => ?_, fun tg e h => ?_, fun es h => ?_⟩
  · exact nomatch (show false = true from h)
  · exact nomatch (show false = true from h)
  · exact nomatch (show false = true from h)
  · cases es with
    | cons _ _ => exact nomatch (show false = true from h)
    | nil =>
      refine ⟨fun _ z => (List.not_mem_nil z).elim, PA.imp pa_nil fun σ H Q q => ?_⟩
      obtain ⟨ρ, st, η, w, sl, q⟩ := q
      exact q ρ H Ext.refl w [] Rels.nil
  · cases oe with
    | some _ => exact nomatch (show false = true from h)
    | none =>
      refine PO.imp po_none fun σ H Q q => ?_
      obtain ⟨ρ, st, η, w, sl, q⟩ := q
      exact q ρ H Ext.refl w
  · exact nomatch (show false = true from h)
  · cases es with
    | cons _ _ => exact nomatch (show false = true from h)
    | nil => exact ⟨[], .nil, rfl⟩
theorem snd_cons (S : CxS g p n c W X) {a as : Ex} (ha : Snd g p n c W X a) (hs : Snd g p n c W X as) : Snd g p n c W X (.cons a as) := by
  refine ⟨fun e h => ?_, fun e h => ?_, fun op vs pos h => ?_, fun es h => ?_, fun oe h => ?_, fun tg e h => ?_, fun es h => ?_⟩
  · exact nomatch (show false = true from h)
  · exact nomatch (show false = true from h)
  · exact nomatch (show false = true from h)
  · cases es with
    | nil => exact nomatch (show false = true from h)
    | cons e es =>
      have h : (noStar e && (chk p a c).v e && (chk p as c).s es) = true := h
      simp only [Bool.and_eq_true] at h
      obtain ⟨⟨h1, h2⟩, h3⟩ := h
      obtain ⟨k1, k2⟩ := hs.s es h3
      refine ⟨fun z hz => ?_, PA.imp (pa_cons (ha.v e h2) k2 (star_cons h1)) fun σ H Q q => ?_⟩
      · rcases List.mem_cons.mp hz with rfl | hz
        · exact h1
        · exact k1 z hz
      · obtain ⟨ρ, st, η, w, sl, q⟩ := q
        refine ⟨ρ, st, η, w, sl, (Post.bind q).imp fun v ρ1 st1 H1 e1 w1 q1 V rv => ?_⟩
        refine ⟨ρ1, st1, η, w1, sl.ext e1, (Post.bind q1).imp fun vs ρ2 st2 H2 e2 w2 q2 Vs rvs => ?_⟩
        exact q2 ρ2 H2 Ext.refl w2 _ (.cons (rv.ext e2) rvs)
  · exact nomatch (show false = true from h)
  · exact nomatch (show false = true from h)
  · cases es with
    | nil => exact nomatch (show false = true from h)
    | cons e es =>
      have h : (noStar e && (chk p a c).v e && (chk p as c).s es) = true := h
      simp only [Bool.and_eq_true] at h
      obtain ⟨fs, k1, k2⟩ := hs.l es h.2
      refine ⟨(evA ⟨callN p n, p.gs⟩ a).v :: fs, .cons (ha.v e h.1.2) k1, ?_⟩
      funext η st
      show ((evA ⟨callN p n, p.gs⟩ a).v η st).bind _ = _
      rw [seqR, ← k2]
/-! displays -/
theorem snd_tup (S : CxS g p n c W X) {as : Ex} (hs : Snd g p n c W X as) : Snd g p n c W X (.tup as) := by
  refine snd_plain S rfl rfl (fun e h => ?_) (fun e h => ?_)
  · cases e <;> first | rfl | exact nomatch (show false = true from h)
  · cases e with
    | Tuple es k pos =>
      refine PE.imp (pe_tup (hs.s es h).2) (se_args (fun _ _ => rfl) (r := fun σ vs H Q => vs.length ≤ sizeLine ∧ ∀ p, H p = none → Q (.ref p) (upd H p (.tup vs))) fun ρ st H σ xs vs Q w r q => ?_)
      obtain ⟨hl, q⟩ := if_ok q
      exact ⟨by rw [← r.length]; exact hl, fun a ha => q ρ _ (Ext.new ha) (w.new ha) _ (newT w r hl ha)⟩
    | _ => exact nomatch (show false = true from h)
theorem snd_lst (S : CxS g p n c W X) {as : Ex} (hs : Snd g p n c W X as) : Snd g p n c W X (.lst as) := by
  refine snd_plain S rfl rfl (fun e h => ?_) (fun e h => ?_)
  · cases e <;> first | rfl | exact nomatch (show false = true from h)
  · cases e with
    | List es pos =>
      refine PE.imp (PE.sh (pe_lst (hs.s es h).2)) (se_args (fun _ _ => rfl) (r := fun σ vs H Q => vs.length ≤ sizeLine ∧ ∀ p, H p = none → Sh Q (.ref p) (upd H p (.lst vs))) fun ρ st H σ xs vs Q w r q => ?_)
      obtain ⟨hl, q⟩ := if_ok q
      exact ⟨by rw [← r.length]; exact hl, fun a ha => shL w r hl q ha⟩
    | _ => exact nomatch (show false = true from h)
theorem snd_new (S : CxS g p n c W X) {as : Ex} (hs : Snd g p n c W X as) : Snd g p n c W X (.new as) := by
  refine snd_plain S rfl rfl (fun e h => ?_) (fun e h => ?_)
  · cases e <;> first | rfl | exact nomatch (show false = true from h)
  · cases e with
    | List es pos =>
      refine PE.imp (pe_lst (hs.s es h).2) (se_args (fun _ _ => rfl) (r := fun σ vs H Q => vs.length ≤ sizeLine ∧ ∀ p, H p = none → Q (.ref p) (upd H p (.lst vs))) fun ρ st H σ xs vs Q w r q => ?_)
      obtain ⟨hl, q⟩ := if_ok q
      refine ⟨by rw [← r.length]; exact hl, fun a ha => q (ρ ++ [a]) _ (Ext.alloc ha) (w.alloc ha ⟨vs, upd_same, hl, r.ext (Ext.alloc ha)⟩) _ ?_⟩
      simp only [Rel]
      exact ⟨a, rfl, by rw [← w.len]; simp⟩
    | _ => exact nomatch (show false = true from h)
/-! operators -/
theorem snd_bin (S : CxS g p n c W X) {a b : Ex} (o : BO) (ha : Snd g p n c W X a) (hb : Snd g p n c W X b) : Snd g p n c W X (.bin o a b) := by
  refine snd_plain S rfl rfl (fun e h => ?_) (fun e h => ?_)
  · cases e <;> first | rfl | exact nomatch (show false = true from h)
  · cases e with
    | BinOp x op y pos =>
      have h : (boB o op && (chk p a c).v x && (chk p b c).v y) = true := h
      simp only [Bool.and_eq_true] at h
      obtain ⟨⟨h1, h2⟩, h3⟩ := h
      have eo : op = bo o := by cases o <;> cases op <;> first | rfl | exact nomatch (show false = true from h1)
      subst eo
      exact PE.imp (pe_op (opB S.K o) (ha.v x h2) (hb.v y h3)) (se_bin (fun _ _ => rfl) fun ρ st H σ x y V U Q w rx ry q => r2v_of w rx ry q)
    | _ => exact nomatch (show false = true from h)
theorem co_eq {o : CO} {op : CmpOp} (h : coB o op = true) : op = co o := by cases o <;> cases op <;> first | rfl | exact nomatch (show false = true from h)
theorem snd_cmp (S : CxS g p n c W X) {a b : Ex} (o : CO) (ha : Snd g p n c W X a) (hb : Snd g p n c W X b) : Snd g p n c W X (.cmp o a b) := by
  have key : ∀ x y op pos, (coB o op && noSet y && (chk p a c).v x && (chk p b c).v y) = true → PE X (.Compare x [op] [y] pos) (SE g W (evA ⟨callN p n, p.gs⟩ (.cmp o a b)).v) ∧ PT X (.Compare x [op] [y] pos) (STt g W (evA ⟨callN p n, p.gs⟩ (.cmp o a b)).t) := fun x y op pos h => by
    simp only [Bool.and_eq_true] at h
    obtain ⟨⟨⟨h1, h2⟩, h3⟩, h4⟩ := h
    have eo := co_eq h1
    subst eo
    have rd : ∀ σ H Q, SE g W (evA ⟨callN p n, p.gs⟩ (.cmp o a b)).v σ H Q → tOp (R2v g fun st a b => (cmpV st o a b).map .bl) (SE g W (evA ⟨callN p n, p.gs⟩ a).v) (SE g W (evA ⟨callN p n, p.gs⟩ b).v) σ H Q :=
      se_bin (fun _ _ => rfl) fun ρ st H σ x y V U Q w rx ry q => r2v_of w rx ry q
    exact ⟨PE.imp (pe_cmpR (opC S.K S.units o) (ha.v x h3) (hb.v y h4) (noMarks h2)) rd, PT.imp (pt_cmpR (opC S.K S.units o) (ha.v x h3) (hb.v y h4) (noMarks h2)) fun σ H Q q => rd σ H _ (stt_se q)⟩
  have form : ∀ e, (chk p (.cmp o a b) c).v e = true → ∃ x op y pos, e = .Compare x [op] [y] pos ∧ (coB o op && noSet y && (chk p a c).v x && (chk p b c).v y) = true := fun e h => by
    simp only [chk, ckV] at h
    split at h
    · exact ⟨_, _, _, _, rfl, h⟩
    · cases h
  refine ⟨fun e h => ?_, fun e h => ?_, fun op vs pos h => (nomatch (show false = true from h)), fun es h => (nomatch (show false = true from h)), fun oe h => ?_, fun tg e h => ?_, fun es h => ?_⟩
  · obtain ⟨x, op, y, pos, rfl, h⟩ := form e h; exact (key x y op pos h).1
  · obtain ⟨x, op, y, pos, rfl, h⟩ := form e h; exact (key x y op pos h).2
  · cases oe with
    | none => exact nomatch (show false = true from h)
    | some e => obtain ⟨x, op, y, pos, rfl, h⟩ := form e h; exact po_plain (key x y op pos h).1
  · obtain ⟨x, op, y, pos, rfl, h⟩ := form e h; exact pi_plain S (key x y op pos h).1
  · exact (nomatch (show false = true from h))
/-- a value and a test that differ in form from a plain one -/
theorem snd_test (S : CxS g p n c W X) {ex : Ex} {F : Env → Store → Res Val} {ck : Expr → Bool} (hc : chk p ex c = ckV ck) (he : evA ⟨callN p n, p.gs⟩ ex = plain F) (hb : ∀ op vs pos, ck (.BoolOp op vs pos) = false)
    (hv : ∀ e, ck e = true → PE X e (SE g W F) ∧ PT X e (STt g W (plain F).t)) : Snd g p n c W X ex := by
  refine ⟨fun e h => ?_, fun e h => ?_, fun op vs pos h => ?_, fun es h => ?_, fun oe h => ?_, fun tg e h => ?_, fun es h => ?_⟩
  · rw [hc] at h; rw [he]; exact (hv e h).1
  · rw [hc] at h; rw [he]; exact (hv e h).2
  · rw [hc] at h
    have h : ck (.BoolOp op vs pos) = true := h
    rw [hb] at h; cases h
  · rw [hc] at h; exact (nomatch (show false = true from h))
  · rw [hc] at h; rw [he]
    cases oe with
    | none => exact (nomatch (show false = true from h))
    | some e => exact po_plain (hv e h).1
  · rw [hc] at h; rw [he]; exact pi_plain S (hv e h).1
  · rw [hc] at h; exact (nomatch (show false = true from h))
theorem snd_isB (S : CxS g p n c W X) {a : Ex} (yes b : Bool) (ha : Snd g p n c W X a) : Snd g p n c W X (.isB yes b a) := by
  refine snd_test S rfl rfl (fun _ _ _ => rfl) fun e h => ?_
  split at h
  · rename_i x op b' j pos' pos
    simp only [Bool.and_eq_true, decide_eq_true_eq] at h
    obtain ⟨⟨h1, h2⟩, h3⟩ := h
    subst h1 h2
    have rd : ∀ σ H Q, SE g W (fun η st => ((evA ⟨callN p n, p.gs⟩ a).v η st).bind fun x st => match x with | .bl c => .ok (.bl (if yes then c == b' else !(c == b'))) st | _ => .no) σ H Q →
        tOp (fun x y H Q => ∃ a b, x = .bl a ∧ y = .bl b ∧ Q (.bl (if yes then a == b else !(a == b))) H) (SE g W (evA ⟨callN p n, p.gs⟩ a).v) (tC (.bl b')) σ H Q := by
      rintro σ H Q ⟨ρ, st, η, w, sl, q⟩
      refine ⟨ρ, st, η, w, sl, (Post.bind q).imp fun v ρ1 st1 H1 e1 w1 q1 V rv => ?_⟩
      cases v with
      | bl c =>
        simp only [Rel] at rv
        subst rv
        exact ⟨c, b', rfl, rfl, q1 ρ1 H1 Ext.refl w1 _ rel_bl⟩
      | _ => exact (show False from q1).elim
    exact ⟨PE.imp (pe_cmpR (op_isB yes) (ha.v x h3) pe_bl (by cases yes <;> rfl)) rd, PT.imp (pt_cmpR (op_isB yes) (ha.v x h3) pe_bl (by cases yes <;> rfl)) fun σ H Q q => rd σ H _ (stt_se q)⟩
  · cases h
theorem snd_isN (S : CxS g p n c W X) {a : Ex} (yes : Bool) (ha : Snd g p n c W X a) : Snd g p n c W X (.isN yes a) := by
  refine snd_test S rfl rfl (fun _ _ _ => rfl) fun e h => ?_
  split at h
  · rename_i x op j pos' pos
    simp only [Bool.and_eq_true, decide_eq_true_eq] at h
    obtain ⟨h1, h2⟩ := h
    have non : ∀ {ρ : List Addr} {H : Hp} {x : Val} {V : L2.V}, Rel g ρ H x V → (decide (V = .non)) = (match x with | .non => true | _ => false) := fun {ρ H x V} r => by
      cases x <;> simp only [Rel] at r
      · subst r; rfl
      · subst r; rfl
      · subst r; rfl
      · rw [r.1]; rfl
      · obtain ⟨a, vs, rfl, _⟩ := r; rfl
      · obtain ⟨a, vs, rfl, _⟩ := r; rfl
      · obtain ⟨a, vs, rfl, _⟩ := r; rfl
      · obtain ⟨a, rfl, _⟩ := r; rfl
    have rd : ∀ σ H Q, SE g W (fun η st => ((evA ⟨callN p n, p.gs⟩ a).v η st).bind fun x st => match x with | .non => .ok (.bl yes) st | _ => .ok (.bl !yes) st) σ H Q →
        SE g W (evA ⟨callN p n, p.gs⟩ a).v σ H fun V H1 => Q (.bl (if yes then decide (V = .non) else !decide (V = .non))) H1 := by
      refine se_un (fun _ _ => rfl) fun ρ st H σ η x V Q w sl rx q => ?_
      rw [non rx]
      cases x <;> cases yes <;> exact q ρ H Ext.refl w _ rel_bl
    cases yes with
    | true =>
      rw [if_pos rfl] at h1; subst h1
      exact ⟨PE.imp (pe_cmp (pc_isN (ha.v x h2))) rd, PT.imp (pt_cmp (pc_isN (ha.v x h2))) fun σ H Q q => rd σ H _ (stt_se q)⟩
    | false =>
      rw [if_neg (by decide)] at h1; subst h1
      exact ⟨PE.imp (pe_cmp (pc_notN (ha.v x h2))) rd, PT.imp (pt_cmp (pc_notN (ha.v x h2))) fun σ H Q q => rd σ H _ (stt_se q)⟩
  · cases h
theorem snd_neg (S : CxS g p n c W X) {a : Ex} (ha : Snd g p n c W X a) : Snd g p n c W X (.neg a) := by
  refine snd_plain S rfl rfl (fun e h => ?_) (fun e h => ?_)
  · split at h
    · rfl
    · cases h
  · split at h
    · rename_i x pos
      refine PE.imp (pe_un un_neg (ha.v x h)) (se_un (fun _ _ => rfl) fun ρ st H σ η x V Q w sl rx q => ?_)
      cases x with
      | int i =>
        simp only [Rel] at rx
        exact ⟨i, rx, q ρ H Ext.refl w _ rel_int⟩
      | _ => exact (show False from q).elim
    · cases h
theorem snd_chain (S : CxS g p n c W X) {a b d : Ex} (o1 o2 : CO) (ha : Snd g p n c W X a) (hb : Snd g p n c W X b) (hd : Snd g p n c W X d) : Snd g p n c W X (.chain o1 o2 a b d) := by
  refine snd_test S rfl rfl (fun _ _ _ => rfl) fun e h => ?_
  split at h
  · rename_i x op1 op2 y z pos
    simp only [Bool.and_eq_true] at h
    obtain ⟨⟨⟨⟨⟨⟨h1, h2⟩, h3⟩, h4⟩, h5⟩, h6⟩, h7⟩ := h
    have e1 := co_eq h1
    have e2 := co_eq h2
    subst e1 e2
    have hm : lastMarks [co o1, co o2] [y, z] = false := by
      show behindInMarks (co o2) z = false
      exact noMarks h4
    have rd : ∀ σ H Q, SE g W (evA ⟨callN p n, p.gs⟩ (.chain o1 o2 a b d)).v σ H Q → tChain (R2v g fun st a b => (cmpV st o1 a b).map .bl) (R2v g fun st a b => (cmpV st o2 a b).map .bl) (SE g W (evA ⟨callN p n, p.gs⟩ a).v) (SE g W (evA ⟨callN p n, p.gs⟩ b).v) (SE g W (evA ⟨callN p n, p.gs⟩ d).v) σ H Q := by
      rintro σ H Q ⟨ρ, st, η, w, sl, q⟩
      refine ⟨ρ, st, η, w, sl, (Post.bind q).imp fun v ρ1 st1 H1 e1 w1 q1 V rv => ?_⟩
      refine ⟨ρ1, st1, η, w1, sl.ext e1, (Post.bind q1).imp fun u ρ2 st2 H2 e2 w2 q2 U ru => ?_⟩
      have rv2 := rv.ext e2
      cases hc : cmpV st2 o1 v u with
      | none => rw [hc] at q2; exact (show False from q2).elim
      | some k =>
        rw [hc] at q2
        refine ⟨ρ2, st2, v, u, .bl k, w2, rv2, ru, (by show (cmpV st2 o1 v u).map _ = _; rw [hc]; rfl), fun ρ3 H3 e3 w3 V3 r3 => ?_⟩
        simp only [Rel] at r3
        refine ⟨k, r3, ?_⟩
        cases k with
        | false =>
          rw [if_neg (by decide)]
          exact q2 ρ3 H3 e3 w3 _ rel_bl
        | true =>
          rw [if_pos rfl]
          have q3 := Post.mono (Post.bind q2) e3
          refine ⟨ρ3, st2, η, w3, (sl.ext e1).ext (e2.trans e3), q3.imp fun z ρ4 st4 H4 e4 w4 q4 Z rz => ?_⟩
          exact r2v_of w4 ((ru.ext e3).ext e4) rz q4
    exact ⟨PE.imp (pe_chain (opC S.K S.units o1) (opC S.K S.units o2) (ha.v x h5) (hb.v y h6) (hd.v z h7) hm) rd,
      PT.imp (pt_chain (opC S.K S.units o1) (opC S.K S.units o2) (ha.v x h5) (hb.v y h6) (hd.v z h7) hm) fun σ H Q q => rd σ H _ (stt_se q)⟩
  · cases h
theorem snd_ix (S : CxS g p n c W X) {a b : Ex} (ha : Snd g p n c W X a) (hb : Snd g p n c W X b) : Snd g p n c W X (.ix a b) := by
  refine snd_plain S rfl rfl (fun e h => ?_) (fun e h => ?_)
  · cases e <;> first | rfl | exact (nomatch (show false = true from h))
  · cases e with
    | Subscript x y pos =>
      have h : (noSlice y && (chk p a c).v x && (chk p b c).v y) = true := h
      simp only [Bool.and_eq_true] at h
      obtain ⟨⟨h1, h2⟩, h3⟩ := h
      exact PE.imp (pe_ix (opX S.K S.units) (ha.v x h2) (hb.v y h3) (plainIx h1)) (se_bin (fun _ _ => rfl) fun ρ st H σ x y V U Q w rx ry q => r2v_of w rx ry q)
    | _ => exact (nomatch (show false = true from h))
theorem snd_sl (S : CxS g p n c W X) {a lo hi : Ex} (ha : Snd g p n c W X a) (hl : Snd g p n c W X lo) (hh : Snd g p n c W X hi) : Snd g p n c W X (.sl a lo hi) := by
  refine snd_plain S rfl rfl (fun e h => ?_) (fun e h => ?_)
  · split at h
    · rfl
    · cases h
  · split at h
    · rename_i x l u p2 pos
      simp only [Bool.and_eq_true] at h
      obtain ⟨⟨h1, h2⟩, h3⟩ := h
      refine PE.imp (pe_slice (sl_all S.K) (ha.v x h1) (hl.o l h2) (hh.o u h3)) ?_
      rintro σ H Q ⟨ρ, st, η, w, sl, q⟩
      refine ⟨ρ, st, η, w, sl, (Post.bind q).imp fun v ρ1 st1 H1 e1 w1 q1 V rv => ?_⟩
      refine ⟨ρ1, st1, η, w1, sl.ext e1, (Post.bind q1).imp fun l ρ2 st2 H2 e2 w2 q2 => ?_⟩
      refine ⟨ρ2, st2, η, w2, (sl.ext e1).ext e2, (Post.bind q2).imp fun u ρ3 st3 H3 e3 w3 q3 => ?_⟩
      obtain ⟨z, hz, q4⟩ := Post.opt q3
      exact ⟨ρ3, st3, v, z, w3, (rv.ext e2).ext e3, hz, q4⟩
    · cases h
/-! and, or, not, if -/
theorem snd_and (S : CxS g p n c W X) {a b : Ex} (ha : Snd g p n c W X a) (hb : Snd g p n c W X b) : Snd g p n c W X (.and a b) := by
  have rdV : ∀ σ H Q, SE g W (evA ⟨callN p n, p.gs⟩ (.and a b)).v σ H Q → tAndV (SE g W (evA ⟨callN p n, p.gs⟩ a).v) (SE g W (evA ⟨callN p n, p.gs⟩ b).v) σ H Q := by
    rintro σ H Q ⟨ρ, st, η, w, sl, q⟩
    refine ⟨ρ, st, η, w, sl, (Post.bind q).imp fun v ρ1 st1 H1 e1 w1 q1 V rv => ?_⟩
    cases v with
    | bl k =>
      simp only [Rel] at rv
      refine ⟨k, rv, ?_⟩
      cases k with
      | true => rw [if_pos rfl]; exact ⟨ρ1, st1, η, w1, sl.ext e1, q1⟩
      | false => rw [if_neg (by decide)]; exact q1 ρ1 H1 Ext.refl w1 _ rel_bl
    | _ => exact (show False from q1).elim
  have rdT : ∀ σ H Q, STt g W (evA ⟨callN p n, p.gs⟩ (.and a b)).t σ H Q → tAnd (STt g W (evA ⟨callN p n, p.gs⟩ a).t) (STt g W (evA ⟨callN p n, p.gs⟩ b).t) σ H Q := by
    rintro σ H Q ⟨ρ, st, η, w, sl, q⟩
    refine ⟨ρ, st, η, w, sl, (Post.bind q).imp fun k ρ1 st1 H1 e1 w1 q1 => ?_⟩
    cases k with
    | true => rw [if_pos rfl]; exact ⟨ρ1, st1, η, w1, sl.ext e1, q1⟩
    | false => rw [if_neg (by decide)]; exact q1 ρ1 H1 Ext.refl w1
  have form : ∀ e, (chk p (.and a b) c).v e = true → (∃ x y pos, e = .BoolOp .And [x, y] pos ∧ (chk p a c).v x = true ∧ (chk p b c).v y = true) ∨
      (∃ x y z r pos, e = .BoolOp .And (x :: y :: z :: r) pos ∧ (chk p a c).v x = true ∧ (chk p b c).v (.BoolOp .And (y :: z :: r) pos) = true) := fun e h => by
    simp only [chk, ckV] at h
    split at h
    · simp only [Bool.and_eq_true] at h; exact .inl ⟨_, _, _, rfl, h.1, h.2⟩
    · simp only [Bool.and_eq_true] at h; exact .inr ⟨_, _, _, _, _, rfl, h.1, h.2⟩
    · cases h
  have val : ∀ e, (chk p (.and a b) c).v e = true → PE X e (SE g W (evA ⟨callN p n, p.gs⟩ (.and a b)).v) := fun e h => by
    rcases form e h with ⟨x, y, pos, rfl, h1, h2⟩ | ⟨x, y, z, r, pos, rfl, h1, h2⟩
    · exact PE.imp (pe_and (ha.v x h1) (pe_one (hb.v y h2))) rdV
    · exact PE.imp (pe_and (ha.v x h1) (hb.v _ h2)) rdV
  have tst : ∀ e, (chk p (.and a b) c).v e = true → PW X e (STt g W (evA ⟨callN p n, p.gs⟩ (.and a b)).t) := fun e h => by
    rcases form e h with ⟨x, y, pos, rfl, h1, h2⟩ | ⟨x, y, z, r, pos, rfl, h1, h2⟩
    · exact PW.imp (pw_and (ha.t x h1) (pw_and1 (hb.t y h2))) rdT
    · exact PW.imp (pw_and (ha.t x h1) (hb.w _ _ _ h2)) rdT
  refine ⟨val, fun e h => (tst e h).pt, fun op vs pos h => tst _ h, fun es h => (nomatch (show false = true from h)), fun oe h => ?_, fun tg e h => pi_plain S (val e h), fun es h => (nomatch (show false = true from h))⟩
  cases oe with
  | none => exact (nomatch (show false = true from h))
  | some e => exact po_plain (val e h)
theorem snd_or (S : CxS g p n c W X) {a b : Ex} (ha : Snd g p n c W X a) (hb : Snd g p n c W X b) : Snd g p n c W X (.or a b) := by
  have rdV : ∀ σ H Q, SE g W (evA ⟨callN p n, p.gs⟩ (.or a b)).v σ H Q → tOrV (SE g W (evA ⟨callN p n, p.gs⟩ a).v) (SE g W (evA ⟨callN p n, p.gs⟩ b).v) σ H Q := by
    rintro σ H Q ⟨ρ, st, η, w, sl, q⟩
    refine ⟨ρ, st, η, w, sl, (Post.bind q).imp fun v ρ1 st1 H1 e1 w1 q1 V rv => ?_⟩
    cases v with
    | bl k =>
      simp only [Rel] at rv
      refine ⟨k, rv, ?_⟩
      cases k with
      | false => rw [if_neg (by decide)]; exact ⟨ρ1, st1, η, w1, sl.ext e1, q1⟩
      | true => rw [if_pos rfl]; exact q1 ρ1 H1 Ext.refl w1 _ rel_bl
    | _ => exact (show False from q1).elim
  have rdT : ∀ σ H Q, STt g W (evA ⟨callN p n, p.gs⟩ (.or a b)).t σ H Q → tOr (STt g W (evA ⟨callN p n, p.gs⟩ a).t) (STt g W (evA ⟨callN p n, p.gs⟩ b).t) σ H Q := by
    rintro σ H Q ⟨ρ, st, η, w, sl, q⟩
    refine ⟨ρ, st, η, w, sl, (Post.bind q).imp fun k ρ1 st1 H1 e1 w1 q1 => ?_⟩
    cases k with
    | false => rw [if_neg (by decide)]; exact ⟨ρ1, st1, η, w1, sl.ext e1, q1⟩
    | true => rw [if_pos rfl]; exact q1 ρ1 H1 Ext.refl w1
  have form : ∀ e, (chk p (.or a b) c).v e = true → (∃ x y pos, e = .BoolOp .Or [x, y] pos ∧ (chk p a c).v x = true ∧ (chk p b c).v y = true) ∨
      (∃ x y z r pos, e = .BoolOp .Or (x :: y :: z :: r) pos ∧ (chk p a c).v x = true ∧ (chk p b c).v (.BoolOp .Or (y :: z :: r) pos) = true) := fun e h => by
    simp only [chk, ckV] at h
    split at h
    · simp only [Bool.and_eq_true] at h; exact .inl ⟨_, _, _, rfl, h.1, h.2⟩
    · simp only [Bool.and_eq_true] at h; exact .inr ⟨_, _, _, _, _, rfl, h.1, h.2⟩
    · cases h
  have val : ∀ e, (chk p (.or a b) c).v e = true → PE X e (SE g W (evA ⟨callN p n, p.gs⟩ (.or a b)).v) := fun e h => by
    rcases form e h with ⟨x, y, pos, rfl, h1, h2⟩ | ⟨x, y, z, r, pos, rfl, h1, h2⟩
    · exact PE.imp (pe_or (ha.v x h1) (pe_one (hb.v y h2))) rdV
    · exact PE.imp (pe_or (ha.v x h1) (hb.v _ h2)) rdV
  have tst : ∀ e, (chk p (.or a b) c).v e = true → PW X e (STt g W (evA ⟨callN p n, p.gs⟩ (.or a b)).t) := fun e h => by
    rcases form e h with ⟨x, y, pos, rfl, h1, h2⟩ | ⟨x, y, z, r, pos, rfl, h1, h2⟩
    · exact PW.imp (pw_or (ha.t x h1) (pw_or1 (hb.t y h2))) rdT
    · exact PW.imp (pw_or (ha.t x h1) (hb.w _ _ _ h2)) rdT
  refine ⟨val, fun e h => (tst e h).pt, fun op vs pos h => tst _ h, fun es h => (nomatch (show false = true from h)), fun oe h => ?_, fun tg e h => pi_plain S (val e h), fun es h => (nomatch (show false = true from h))⟩
  cases oe with
  | none => exact (nomatch (show false = true from h))
  | some e => exact po_plain (val e h)
theorem snd_not (S : CxS g p n c W X) {a : Ex} (ha : Snd g p n c W X a) : Snd g p n c W X (.not a) := by
  have form : ∀ e, (chk p (.not a) c).v e = true → ∃ x pos, e = .UnaryOp .Not x pos ∧ (chk p a c).v x = true := fun e h => by
    simp only [chk, ckV] at h
    split at h
    · exact ⟨_, _, rfl, h⟩
    · cases h
  have val : ∀ e, (chk p (.not a) c).v e = true → PE X e (SE g W (evA ⟨callN p n, p.gs⟩ (.not a)).v) := fun e h => by
    obtain ⟨x, pos, rfl, h⟩ := form e h
    refine PE.imp (pe_not (ha.v x h)) (se_un (fun _ _ => rfl) (r := fun V H Q => ∃ k, V = .bl k ∧ Q (.bl (!k)) H) fun ρ st H σ η x V Q w sl rx q => ?_)
    cases x with
    | bl k =>
      simp only [Rel] at rx
      exact ⟨k, rx, q ρ H Ext.refl w _ rel_bl⟩
    | _ => exact (show False from q).elim
  refine ⟨val, fun e h => ?_, fun op vs pos h => (nomatch (show false = true from h)), fun es h => (nomatch (show false = true from h)), fun oe h => ?_, fun tg e h => pi_plain S (val e h), fun es h => (nomatch (show false = true from h))⟩
  · obtain ⟨x, pos, rfl, h⟩ := form e h
    refine PT.imp (pt_not (ha.t x h)) ?_
    rintro σ H Q ⟨ρ, st, η, w, sl, q⟩
    exact ⟨ρ, st, η, w, sl, (Post.bind q).imp fun k ρ1 st1 H1 e1 w1 q1 => q1 ρ1 H1 Ext.refl w1⟩
  · cases oe with
    | none => exact (nomatch (show false = true from h))
    | some e => exact po_plain (val e h)
theorem snd_ite (S : CxS g p n c W X) {t a b : Ex} (ht : Snd g p n c W X t) (ha : Snd g p n c W X a) (hb : Snd g p n c W X b) : Snd g p n c W X (.ite t a b) := by
  have form : ∀ e, (chk p (.ite t a b) c).v e = true → ∃ x y z pos, e = .IfExp x y z pos ∧ (chk p t c).v x = true ∧ (chk p a c).v y = true ∧ (chk p b c).v z = true := fun e h => by
    simp only [chk, ckV] at h
    split at h
    · simp only [Bool.and_eq_true] at h; exact ⟨_, _, _, _, rfl, h.1.1, h.1.2, h.2⟩
    · cases h
  have val : ∀ e, (chk p (.ite t a b) c).v e = true → PE X e (SE g W (evA ⟨callN p n, p.gs⟩ (.ite t a b)).v) := fun e h => by
    obtain ⟨x, y, z, pos, rfl, h1, h2, h3⟩ := form e h
    refine PE.imp (pe_ifExp (ht.t x h1) (ha.v y h2) (hb.v z h3)) ?_
    rintro σ H Q ⟨ρ, st, η, w, sl, q⟩
    refine ⟨ρ, st, η, w, sl, (Post.bind q).imp fun k ρ1 st1 H1 e1 w1 q1 => ?_⟩
    cases k with
    | true => rw [if_pos rfl]; exact ⟨ρ1, st1, η, w1, sl.ext e1, q1⟩
    | false => rw [if_neg (by decide)]; exact ⟨ρ1, st1, η, w1, sl.ext e1, q1⟩
  refine ⟨val, fun e h => ⟨fun pins s σ H Q I q => ?_⟩, fun op vs pos h => (nomatch (show false = true from h)), fun es h => (nomatch (show false = true from h)), fun oe h => ?_, fun tg e h => pi_plain S (val e h), fun es h => (nomatch (show false = true from h))⟩
  · obtain ⟨_, _, _, _, _, q⟩ := q; exact (show False from q).elim
  · cases oe with
    | none => exact (nomatch (show false = true from h))
    | some e => exact po_plain (val e h)
end
end Mi
namespace Mi
open PySem L2

section
variable {g : Gd} {p : Prg} {n : Nat} {c : CC} {W : WX} {X : Cx}
/-! dict displays -/
theorem merge_sd {ρ : List Addr} {H : Hp} : ∀ {ks : List Txt} {xs : List Val} {ms : List (Key × V)} {ks0 : List Txt} {xs0 : List Val} {kvs0 : List (Key × V)}, ms.map (·.1) = ks.map tk → Rels g ρ H xs (ms.map (·.2)) → KsOk ks → kvs0.map (·.1) = ks0.map tk → Rels g ρ H xs0 (kvs0.map (·.2)) → KsOk ks0 →
    ((mergeK kvs0 ms).map (·.1) = (putAll ks xs (ks0, xs0)).1.map tk ∧ KsOk (putAll ks xs (ks0, xs0)).1) ∧ Rels g ρ H (putAll ks xs (ks0, xs0)).2 ((mergeK kvs0 ms).map (·.2)) ∧ (putAll ks xs (ks0, xs0)).2.length ≤ xs0.length + ks.length
  | [], xs, ms, ks0, xs0, kvs0, e, r, hk, e0, r0, hk0 => by
    cases ms with
    | cons _ _ => cases e
    | nil => exact ⟨⟨e0, hk0⟩, r0, by simp [putAll]⟩
  | k :: ks, xs, ms, ks0, xs0, kvs0, e, r, hk, e0, r0, hk0 => by
    cases ms with
    | nil => cases e
    | cons m ms =>
      simp only [List.map_cons, List.cons.injEq] at e
      cases xs with
      | nil => simp only [Rels, List.map_cons] at r; cases r
      | cons x xs =>
        obtain ⟨v, u, e2, r1, r2⟩ := r.cons_inv
        simp only [List.map_cons, List.cons.injEq] at e2
        have pk := put_sd (k := k) r1 e0 r0
        have ih := merge_sd (ks := ks) (xs := xs) (ms := ms) (ks0 := (putD k x ks0 xs0).1) (xs0 := (putD k x ks0 xs0).2) (kvs0 := putK kvs0 (tk k) v) e.2 (by rw [e2.2]; exact r2) (fun z hz => hk z (List.mem_cons_of_mem _ hz)) pk.1 pk.2 (putD_ks hk0 (hk k List.mem_cons_self))
        have em : mergeK kvs0 (m :: ms) = mergeK (putK kvs0 (tk k) v) ms := by
          show mergeK (putK kvs0 m.1 m.2) ms = _
          rw [e.1, e2.1]
        rw [em, putAll]
        refine ⟨ih.1, ih.2.1, Nat.le_trans ih.2.2 ?_⟩
        have := putD_len k x ks0 xs0
        rw [List.length_cons]; omega
/-- the pairs of a display from the flat list of its parts -/
theorem pairs_of : ∀ {ks : List (Option Expr)} {vs : List Expr} {es : List Expr} {fs : List (Env → Store → Res Val)} {pos : Pos}, pairL ks vs = some es → PEs g W X es fs →
    ∃ trs, PPs X pos ks vs trs ∧ ks.all (·.isSome) = true ∧ ks.length = vs.length ∧ ∀ (ρ : List Addr) (st : Store) (H : Hp) (η : Env) (σ : St) (Q : List (V × V) → Hp → Prop) (C : List Val → List Addr → Store → Hp → Prop), Wd g ρ st H → Slots g ρ H η σ →
      Post g (fun c d H' => W c d σ H') ρ H (seqR fs η st) C → (∀ xs ρ' st' H' ps, Ext ρ H ρ' H' → Wd g ρ' st' H' → C xs ρ' st' H' → Rels g ρ' H' xs (ps.flatMap fun q => [q.1, q.2]) → Q ps H') → tPairs trs σ H Q
  | [], [], es, fs, pos, h, t => by
    simp only [pairL, Option.some.injEq] at h
    subst h
    cases t
    refine ⟨[], pps_nil, rfl, rfl, fun ρ st H η σ Q C w sl q k => ?_⟩
    exact k [] ρ st H [] Ext.refl w (q ρ H Ext.refl w) (by simp [Rels])
  | some k :: ks, v :: vs, es, fs, pos, h, t => by
    simp only [pairL] at h
    cases hp : pairL ks vs with
    | none => rw [hp] at h; cases h
    | some es' =>
      rw [hp] at h
      simp only [Option.map_some, Option.some.injEq] at h
      subst h
      cases t with
      | @cons _ f1 _ fs1 h1 t1 =>
        cases t1 with
        | @cons _ f2 _ fs2 h2 t2 =>
          obtain ⟨trs, a1, a2, a3, a4⟩ := pairs_of (pos := pos) hp t2
          refine ⟨_, pps_cons h1 h2 a1, by simp [a2], by simp [a3], fun ρ st H η σ Q C w sl q k => ?_⟩
          simp only [seqR] at q
          refine ⟨ρ, st, η, w, sl, (Post.bind q).imp fun x ρ1 st1 H1 e1 w1 q1 V1 r1 => ?_⟩
          refine ⟨ρ1, st1, η, w1, sl.ext e1, (Post.bind (Post.bind q1)).imp fun y ρ2 st2 H2 e2 w2 q2 V2 r2 => ?_⟩
          refine a4 ρ2 st2 H2 η σ _ _ w2 ((sl.ext e1).ext e2) (Post.bind q2) fun xs ρ3 st3 H3 ps e3 w3 q3 r3 => ?_
          refine k (x :: y :: xs) ρ3 st3 H3 ((V1, V2) :: ps) ((e1.trans e2).trans e3) w3 (q3 ρ3 H3 Ext.refl w3 ρ3 H3 Ext.refl w3) ?_
          exact .cons ((r1.ext e2).ext e3) (.cons (r2.ext e3) r3)
  | [], _ :: _, _, _, _, h, _ => by cases h
  | some _ :: _, [], _, _, _, h, _ => by cases h
  | none :: _, _, _, _, _, h, _ => by cases h
theorem pairUp_sd {ρ : List Addr} {H : Hp} : ∀ {xs : List Val} {m : List Txt × List Val} {ps : List (V × V)}, pairUp xs = some m → Rels g ρ H xs (ps.flatMap fun q => [q.1, q.2]) →
    ∃ kvs : List (Key × V), ps = kvs.map (fun kv => (kV kv.1, kv.2)) ∧ kvs.map (·.1) = m.1.map tk ∧ Rels g ρ H m.2 (kvs.map (·.2)) ∧ KsOk m.1 ∧ kvs.length = m.1.length
  | [], m, ps, h, r => by
    simp only [pairUp, Option.some.injEq] at h
    subst h
    cases ps with
    | nil => exact ⟨[], rfl, rfl, .nil, fun _ z => (List.not_mem_nil z).elim, rfl⟩
    | cons q ps => simp [Rels] at r
  | [_], m, ps, h, r => by simp [pairUp] at h
  | k :: v :: xs, m, ps, h, r => by
    simp only [pairUp] at h
    cases hk : keyOf k with
    | none => rw [hk] at h; cases h
    | some kk =>
      cases hm : pairUp xs with
      | none => rw [hk, hm] at h; cases h
      | some m' =>
        rw [hk, hm] at h
        simp only [Option.bind_some, Option.map_some, Option.some.injEq] at h
        subst h
        cases ps with
        | nil => simp [Rels] at r
        | cons q ps =>
          have r : Rels g ρ H (k :: v :: xs) (q.1 :: q.2 :: ps.flatMap fun q => [q.1, q.2]) := r
          obtain ⟨_, _, e1, r1, r'⟩ := r.cons_inv
          cases e1
          obtain ⟨_, _, e2, r2, r3⟩ := r'.cons_inv
          cases e2
          obtain ⟨kvs, b1, b2, b3, b4, b5⟩ := pairUp_sd hm r3
          obtain ⟨ek, lk⟩ := key_sd r1 hk
          refine ⟨(tk kk, q.2) :: kvs, ?_, ?_, .cons r2 b3, ?_, by simp [b5]⟩
          · rw [List.map_cons, ← b1]
            show q :: ps = (kV (tk kk), q.2) :: ps
            rw [← ek]
          · rw [List.map_cons, List.map_cons, b2]
          · intro z hz
            rcases List.mem_cons.mp hz with rfl | hz
            · exact lk
            · exact b4 z hz
theorem Post.bind0 {α β : Type} {E : Value → Option Addr → Hp → Prop} {ρ : List Addr} {H : Hp} {r : Res α} {f : α → Store → Res β} {Q : β → List Addr → Store → Hp → Prop} (h : Post g E ρ H (r.bind f) Q) : Post g E ρ H r (fun v _ st' _ => Post g E ρ H (f v st') Q) := by
  cases r with
  | ok v st' => exact fun _ _ _ _ => h
  | ex x st' => exact h
  | no => exact h
/-- beside something new that is laid meanwhile -/
theorem Ext.beside {ρ ρ1 : List Addr} {H H1 : Hp} {a : Addr} {o u : HO} (ha : H a = none) (e : Ext ρ (upd H a o) ρ1 H1) : Ext ρ H ρ1 (upd H1 a u) ∧ Ext ρ H ρ1 H1 := by
  have e0 : Ext ρ H ρ1 H1 := (Ext.new ha).trans e
  refine ⟨⟨e0.pre, fun b xs q => ?_, fun b o u q => ?_, fun b o q tb nb => ?_⟩, e0⟩
  · rw [upd_ne (ne_of_none q ha)]; exact e0.tup b xs q
  · rw [upd_ne (ne_of_none q ha)]; exact e0.frz b o u q
  · rw [upd_ne (ne_of_none q ha)]; exact e0.keep b o q tb nb
/-- what is related stays so where something is written that is no part of it -/
theorem Wd.beside {ρ : List Addr} {st : Store} {H : Hp} {a : Addr} {u : HO} (w : Wd g ρ st H) (na : a ∉ ρ) (h1 : ∀ xs, H a ≠ some (.tup xs)) (h2 : ∀ o u, H a ≠ some (.frz o u)) (h3 : ∀ ps, H a ≠ some (.tbl ps)) (h4 : ∀ φ, H a ≠ some (.ext φ)) : Wd g ρ st (upd H a u) ∧ Ext0 ρ H ρ (upd H a u) := by
  have e : Ext0 ρ H ρ (upd H a u) := ⟨⟨[], by simp⟩, fun b xs q => by rw [upd_ne (fun z => h1 xs (by rw [← z]; exact q))]; exact q, fun b o u q => by rw [upd_ne (fun z => h2 o u (by rw [← z]; exact q))]; exact q⟩
  refine ⟨⟨w.len, w.nd, fun m ob b h3 h4 => (w.ob m ob b h3 h4).ext0 e ?_, fun q hq => ?_⟩, e⟩
  · rw [upd_ne (fun z => na (by rw [← z]; exact List.mem_of_getElem? h4))]
  · obtain ⟨k0, ps, k1, k2, k3⟩ := w.tb q hq
    refine ⟨k0, ps, by rw [upd_ne (fun z => h3 ps (by rw [← z]; exact k1))]; exact k1, k2, fun pos cv hc => ?_⟩
    obtain ⟨c, e1, e2, e3⟩ := k3 pos cv hc
    refine ⟨c, e1, e2, ?_⟩
    rw [upd_ne (fun z => h4 _ (by rw [← z]; exact e3))]; exact e3
/-- a display's reading, its end open -/
theorem disp_rd (S : CxS g p n c W X) {as : Ex} (hs : Snd g p n c W X as) {ks : List (Option Expr)} {vs : List Expr} {es : List Expr} {pos : Pos} (hp : pairL ks vs = some es) (he : (chk p as c).s es = true) (h15 : ks.length ≤ 15) {G : List Txt × List Val → Store → Res Val}
    (hT : ∀ (ρ0 : List Addr) (H0 : Hp) (ρ : List Addr) (st : Store) (H : Hp) (σ : St) (Q : VK) (a : Addr) (m : List Txt × List Val) (kvs : List (Key × V)), H0 a = none → Ext ρ0 (upd H0 a (.dK [])) ρ H → Wd g ρ st H → H a = some (.dK []) → a ∉ ρ → (kvs.map (·.1) = m.1.map tk ∧ KsOk m.1) → Rels g ρ H m.2 (kvs.map (·.2)) → m.2.length ≤ sizeLine →
      Post g (fun c d H' => W c d σ H') ρ0 H0 (G m st) (fun v ρ' _ H' => ∀ V, Rel g ρ' H' v V → Q V H') → Sh Q (.ref a) (upd H a (.dK kvs))) :
    PE X (.Dict ks vs pos) (SE g W fun η st => ((evA ⟨callN p n, p.gs⟩ as).s η st).bind fun xs st => match pairUp xs with
      | some q => if q.1.length ≤ 15 then G (putAll q.1 q.2 ([], [])) st else .no
      | none => .no) := by
  obtain ⟨fs, t, ef⟩ := hs.l es he
  obtain ⟨trs, a1, a2, a3, a4⟩ := pairs_of (pos := pos) hp t
  by_cases h0 : ks = []
  · subst h0
    cases vs with
    | cons _ _ => cases hp
    | nil =>
      simp only [pairL, Option.some.injEq] at hp
      subst hp
      cases t
      refine PE.imp (PE.sh pe_dnewK) ?_
      rintro σ H Q ⟨ρ, st, η, w, sl, q⟩ a ha
      rw [ef] at q
      have q2 : Post g (fun c d H' => W c d σ H') ρ H (if 0 ≤ 15 then G ([], []) st else .no) (fun v ρ' _ H' => ∀ V, Rel g ρ' H' v V → Q V H') := q
      have := hT ρ H ρ st (upd H a (.dK [])) σ Q a ([], []) [] ha Ext.refl (w.new ha) upd_same (w.fresh ha) ⟨rfl, fun _ z => (List.not_mem_nil z).elim⟩ .nil (Nat.zero_le _) (if_ok q2).2
      rwa [upd_upd] at this
  · refine PE.imp (PE.sh (pe_disp a1 a2 a3 h0 h15)) ?_
    rintro σ H0 Q ⟨ρ, st, η, w, sl, q⟩ a ha
    rw [ef] at q
    refine a4 ρ st (upd H0 a (.dK [])) η σ _ _ (w.new ha) (sl.ext (Ext.new ha)) ((Post.bind0 q).mono (Ext.new ha)) fun xs ρ1 st1 H1 ps e1 w1 q1 r1 => ?_
    obtain ⟨ha1, na1⟩ := e1.keep a _ upd_same (fun _ z => by cases z) (w.fresh ha)
    cases hm : pairUp xs with
    | none => rw [hm] at q1; exact (show False from q1).elim
    | some m =>
      rw [hm] at q1
      obtain ⟨l15, q1⟩ := if_ok q1
      obtain ⟨kvs, b1, b2, b3, b4, b5⟩ := pairUp_sd hm r1
      obtain ⟨m1, m2, m3⟩ := merge_sd (ks0 := []) (xs0 := []) (kvs0 := []) b2 b3 b4 rfl .nil (fun _ z => (List.not_mem_nil z).elim)
      refine ⟨ha1, kvs, b1, by rw [b5]; exact l15, hT ρ H0 ρ1 st1 H1 σ Q a _ _ ha e1 w1 ha1 na1 m1 m2 ?_ q1⟩
      refine Nat.le_trans m3 ?_
      have : (15 : Nat) ≤ sizeLine := by decide
      show 0 + m.1.length ≤ _
      omega
theorem snd_dsp (S : CxS g p n c W X) {as : Ex} (hs : Snd g p n c W X as) : Snd g p n c W X (.dsp as) := by
  refine snd_plain S rfl rfl (fun e h => ?_) (fun e h => ?_)
  · cases e <;> first | rfl | exact (nomatch (show false = true from h))
  · cases e with
    | Dict ks vs pos =>
      dsimp only at h
      split at h
      · rename_i es hp
        simp only [Bool.and_eq_true, decide_eq_true_eq] at h
        refine disp_rd S hs hp h.1 h.2 (G := fun m st => .ok (.dct m.1 m.2) st) fun ρ0 H0 ρ st H σ Q a m kvs ha0 e0 w ha na hk r hl q => ?_
        refine .inr ⟨a, .dK kvs, upd_same, trivial, fun od => ?_⟩
        rw [upd_upd]
        obtain ⟨w2, e2⟩ := Wd.beside (u := .frz od (.dK kvs)) w na (fun _ z => by rw [ha] at z; cases z) (fun _ _ z => by rw [ha] at z; cases z) (fun _ z => by rw [ha] at z; cases z) (fun _ z => by rw [ha] at z; cases z)
        refine q ρ _ (Ext.beside ha0 e0).1 w2 _ ?_
        simp only [Rel]
        exact ⟨a, kvs, rfl, ⟨od, upd_same⟩, hl, hk, r.ext0 e2⟩
      · cases h
    | _ => exact (nomatch (show false = true from h))
theorem snd_dnew (S : CxS g p n c W X) {as : Ex} (hs : Snd g p n c W X as) : Snd g p n c W X (.dnew as) := by
  refine snd_plain S rfl rfl (fun e h => ?_) (fun e h => ?_)
  · cases e <;> first | rfl | exact (nomatch (show false = true from h))
  · cases e with
    | Dict ks vs pos =>
      dsimp only at h
      split at h
      · rename_i es hp
        simp only [Bool.and_eq_true, decide_eq_true_eq] at h
        refine disp_rd S hs hp h.1 h.2 (G := fun m st => .ok (.loc st.length) (st ++ [.dct m.1 m.2])) fun ρ0 H0 ρ st H σ Q a m kvs ha0 e0 w ha na hk r hl q => ?_
        obtain ⟨w2, e2⟩ := Wd.beside (u := .dK kvs) w na (fun _ z => by rw [ha] at z; cases z) (fun _ _ z => by rw [ha] at z; cases z) (fun _ z => by rw [ha] at z; cases z) (fun _ z => by rw [ha] at z; cases z)
        have e3 := (Ext.beside (u := .dK kvs) ha0 e0).1
        have e4 : Ext ρ0 H0 (ρ ++ [a]) (upd H a (.dK kvs)) := by
          refine ⟨by obtain ⟨m', hm⟩ := e3.pre; exact ⟨m' ++ [a], by rw [hm, List.append_assoc]⟩, e3.tup, e3.frz, fun b o hb tb nb => ⟨(e3.keep b o hb tb nb).1, ?_⟩⟩
          simp only [List.mem_append, List.mem_singleton, not_or]
          exact ⟨(e3.keep b o hb tb nb).2, ne_of_none hb ha0⟩
        have e5 : Ext0 ρ (upd H a (.dK kvs)) (ρ ++ [a]) (upd H a (.dK kvs)) := ⟨⟨[a], rfl⟩, fun _ _ q => q, fun _ _ _ q => q⟩
        refine .inl (q (ρ ++ [a]) _ e4 ⟨by simp [w.len], ?_, fun k ob b h1 h2 => ?_, fun q hq => ?_⟩ _ ?_)
        · rw [List.nodup_append]
          refine ⟨w.nd, by simp, fun x hx y hy z => ?_⟩
          have : y = a := by simpa using hy
          subst this; subst z
          exact na hx
        · by_cases hk2 : k < st.length
          · rw [List.getElem?_append_left hk2] at h1
            rw [List.getElem?_append_left (by rw [w.len]; exact hk2)] at h2
            exact (w2.ob k ob b h1 h2).ext0 e5 rfl
          · have hk3 : k = st.length := by
              have := (List.getElem?_eq_some_iff.mp h1).1
              simp at this; omega
            subst hk3
            rw [List.getElem?_append_right (Nat.le_refl _)] at h1
            rw [List.getElem?_append_right (by rw [w.len]; exact Nat.le_refl _), w.len] at h2
            simp at h1 h2
            subst h1; subst h2
            exact ⟨kvs, upd_same, hl, hk, (r.ext0 e2).ext0 e5⟩
        · obtain ⟨k0, ps, k1, k2, k3⟩ := w2.tb q hq
          have nA : ∀ {b : Addr} {o : HO}, upd H a (.dK kvs) b = some o → o ≠ .dK kvs → b ≠ a := fun {b o} e n z => by
            rw [z, upd_same] at e
            exact n (Option.some.inj e).symm
          have mem : ∀ {b : Addr}, b ∉ ρ → b ≠ a → b ∉ ρ ++ [a] := fun {b} h1 h2 => by
            simp only [List.mem_append, List.mem_singleton, not_or]; exact ⟨h1, h2⟩
          refine ⟨mem k0 (nA k1 (fun z => by cases z)), ps, k1, k2, fun pos cv hc => ?_⟩
          obtain ⟨c, e1, e2, e3⟩ := k3 pos cv hc
          exact ⟨c, e1, mem e2 (nA e3 (fun z => by unfold LamX.CodeO at z; cases z)), e3⟩
        · simp only [Rel]
          exact ⟨a, rfl, by rw [← w.len]; simp⟩
      · cases h
    | _ => exact (nomatch (show false = true from h))
end
end Mi
namespace Mi
open PySem L2

section
variable {g : Gd} {p : Prg} {n : Nat} {c : CC} {W : WX} {X : Cx}
theorem fo_b (f : FO) (h1 : f ≠ .ssort) (h2 : f ≠ .lset) : foN f ∈ bnames ∧ ((∃ id, foV f = .builtin id ∧ bootBuiltins (foN f : Str) = some (.builtin id)) ∨ (∃ T, foV f = .type T ∧ bootBuiltins (foN f : Str) = some (.type T))) ∧ ((foN f : Str) ≠ ("__name__" : Str) ∧ ((foN f : Str) == ("__debug__" : Str)) = false) := by
  cases f <;> first | exact absurd rfl h1 | exact absurd rfl h2 | exact ⟨by decide, .inl ⟨_, rfl, by decide +kernel⟩, by decide +kernel, by decide +kernel⟩ | exact ⟨by decide, .inr ⟨_, rfl, by decide +kernel⟩, by decide +kernel, by decide +kernel⟩
theorem snd_fn (S : CxS g p n c W X) {as : Ex} (f : FO) (h1 : f ≠ .ssort) (hs : Snd g p n c W X as) : Snd g p n c W X (.fn f as) := by
  by_cases h2 : f = .lset
  · subst h2
    exact snd_ck0 rfl
  obtain ⟨b1, b2, b3, b4⟩ := fo_b f h1 h2
  refine snd_plain (F := fun η st => ((evA ⟨callN p n, p.gs⟩ as).s η st).bind fun vs st => opt (fnV st f vs) st) (ck := fun e => match e with
    | .Call (.Name x _) (y :: ys) [] _ => bltB c x (foN f) && (chk p as c).s (y :: ys)
    | _ => false) S (by cases f <;> first | rfl | exact absurd rfl h1 | exact absurd rfl h2) rfl (fun e h => ?_) (fun e h => ?_)
  · split at h
    · rfl
    · cases h
  · split at h
    · rename_i x px y ys pos
      simp only [Bool.and_eq_true] at h
      obtain ⟨gx, mx, rfl⟩ := blt_of S h.1 b1
      obtain ⟨st, pa⟩ := hs.s _ h.2
      have rd := se_args (g := g) (W := W) (F := fun η st => ((evA ⟨callN p n, p.gs⟩ as).s η st).bind fun vs st => opt (fnV st f vs) st) (fun _ _ => rfl) (r := fun σ vs H Q => RCv g (fun st => fnV st f) vs H Q) fun ρ st H σ xs vs Q w r q => rcv_of w r q
      have op := opF (X := X) S.K S.calm S.units f h1
      rcases b2 with ⟨id, e1, e2⟩ | ⟨T, e1, e2⟩
      · rw [e1] at op
        exact PE.imp (pe_callB op gx mx e2 pa b3 b4 (star_cons (st _ List.mem_cons_self)) (star_any fun z hz => st z (List.mem_cons_of_mem _ hz))) rd
      · rw [e1] at op
        exact PE.imp (pe_callTy op gx mx e2 pa b3 b4 (star_cons (st _ List.mem_cons_self)) (star_any fun z hz => st z (List.mem_cons_of_mem _ hz))) rd
    · cases h
theorem snd_ssort (S : CxS g p n c W X) {as : Ex} (hs : Snd g p n c W X as) : Snd g p n c W X (.fn .ssort as) := by
  refine snd_plain S rfl rfl (fun e h => ?_) (fun e h => ?_)
  · split at h
    · rfl
    · cases h
  · split at h
    · rename_i f pf gg pg x p2 pos
      simp only [Bool.and_eq_true] at h
      obtain ⟨⟨h1, h2⟩, h3⟩ := h
      obtain ⟨gf, mf, rfl⟩ := blt_of S h1 (by decide)
      obtain ⟨gs, ms, rfl⟩ := blt_of S h2 (by decide)
      obtain ⟨st, pa⟩ := hs.s _ h3
      have inner := pe_callTy (call_setT S.calm) gs ms (by decide +kernel) pa (by decide +kernel) (by decide +kernel) (star_cons (st _ List.mem_cons_self)) (by rfl) (pos := p2) (p := pg)
      have outer := pe_callB (call_sortedT S.calm) gf mf (by decide +kernel) (pa_cons inner pa_nil (by rfl)) (by decide +kernel) (by decide +kernel) (by rfl) (by rfl) (pos := pos) (p := pf)
      refine PE.imp (PE.sh outer) ?_
      rintro σ H Q ⟨ρ, st1, η, w, sl, q⟩
      refine ⟨ρ, st1, η, w, sl, (Post.bind q).imp fun xs ρ1 st2 H1 e1 w1 q1 Vs rs => ?_⟩
      obtain ⟨z, hz, q2⟩ := Post.opt q1
      simp only [fnV] at hz
      split at hz
      · rename_i v
        obtain ⟨V, rfl, rv⟩ := one_sd rs
        cases ha : asL st2 v with
        | none => rw [ha] at hz; cases hz
        | some ys =>
          rw [ha] at hz
          simp only [Option.bind_some] at hz
          cases hb : strsV ys with
          | none => rw [hb] at hz; cases hz
          | some ts =>
            rw [hb] at hz
            simp only [Option.bind_some] at hz
            split at hz
            · rename_i h64
              cases hz
              obtain ⟨a, vs, rfl, k1, k2, k3⟩ := asL_sd w1 rv ha
              have ev := strs_sd k3 hb
              refine ⟨a, ts, rfl, by rw [S.K]; rw [ev] at k1; exact k1, Nat.lt_of_le_of_lt (Nat.succ_le_of_lt h64) (by decide), fun b hb1 => ?_⟩
              refine ⟨b, addAll ts [], rfl, upd_same, Nat.lt_of_le_of_lt (addAll_len ts []) (by simpa using h64), fun l hl => ?_⟩
              rw [sort_addAll]
              have e2 : Ext ρ1 H1 ρ1 (upd H1 b (SetX X.w b (addAll ts []))) := Ext.new hb1
              have rr : Rels g ρ1 (upd H1 b (SetX X.w b (addAll ts []))) ((sortU ts).map .str) ((sortU ts).map (V.str ∘ tx)) := strs_rel fun t ht => (strs_len k3 hb) t ((sortU_mem ts t).mp ht)
              exact shL (w1.new hb1) rr (by rw [List.length_map]; exact Nat.le_trans (sortU_len ts) (Nat.le_of_lt (Nat.lt_of_lt_of_le h64 (by decide)))) (fun ρ' H' e3 w3 => q2 ρ' H' (e2.trans e3) w3) hl
            · cases hz
      · cases hz
    · cases h
theorem snd_lnew (S : CxS g p n c W X) {a : Ex} (ha : Snd g p n c W X a) : Snd g p n c W X (.lnew a) := by
  refine snd_plain S rfl rfl (fun e h => ?_) (fun e h => ?_)
  · split at h
    · rfl
    · cases h
  · split at h
    · rename_i x px y pos
      simp only [Bool.and_eq_true] at h
      obtain ⟨gx, mx, rfl⟩ := blt_of S h.1.1 (by decide)
      have op : CallR X (.type "list") (fun vs H Q => ∃ ρ st v V xs, Wd g ρ st H ∧ vs = [V] ∧ Rel g ρ H v V ∧ listV st v = some xs ∧ ∀ l us, xs.length ≤ sizeLine → Rels g ρ H xs us → H l = none → Q (.ref l) (upd H l (.lst us))) := by
        intro pins s σ H vs us Q I r q
        obtain ⟨ρ, st, v, V, xs, w, rfl, rv, hx, q⟩ := q
        exact list_of S.K S.calm w rv hx I r q
      refine PE.imp (pe_callTy op gx mx (by decide +kernel) (pa_cons (ha.v y h.2) pa_nil (star_cons h.1.2)) (by decide +kernel) (by decide +kernel) (star_cons h.1.2) (by rfl)) ?_
      rintro σ H Q ⟨ρ, st1, η, w, sl, q⟩
      refine ⟨ρ, st1, η, w, sl, (Post.bind q).imp fun v ρ1 st2 H1 e1 w1 q1 V rv => ?_⟩
      cases hx : listV st2 v with
      | none => rw [hx] at q1; exact (show False from q1).elim
      | some xs =>
        rw [hx] at q1
        refine ⟨ρ1, st2, v, V, xs, w1, rfl, rv, hx, fun l us hl r hp => q1 (ρ1 ++ [l]) _ (Ext.alloc hp) (w1.alloc hp ⟨us, upd_same, hl, r.ext (Ext.alloc hp)⟩) _ ?_⟩
        simp only [Rel]
        exact ⟨l, rfl, by rw [← w1.len]; simp⟩
    · cases h
theorem snd_dcpy (S : CxS g p n c W X) {a : Ex} (ha : Snd g p n c W X a) : Snd g p n c W X (.dcpy a) := by
  refine snd_plain S rfl rfl (fun e h => ?_) (fun e h => ?_)
  · split at h
    · rfl
    · cases h
  · split at h
    · rename_i x px y pos
      simp only [Bool.and_eq_true] at h
      obtain ⟨gx, mx, rfl⟩ := blt_of S h.1.1 (by decide)
      refine PE.imp (pe_callTy call_dictD gx mx (by decide +kernel) (pa_cons (ha.v y h.2) pa_nil (star_cons h.1.2)) (by decide +kernel) (by decide +kernel) (star_cons h.1.2) (by rfl)) ?_
      rintro σ H Q ⟨ρ, st1, η, w, sl, q⟩
      refine ⟨ρ, st1, η, w, sl, (Post.bind q).imp fun v ρ1 st2 H1 e1 w1 q1 V rv => ?_⟩
      cases hx : dictV st2 v with
      | none => rw [hx] at q1; exact (show False from q1).elim
      | some xs =>
        rw [hx] at q1
        obtain ⟨b, kvs, rfl, h1, h2, h3, h4⟩ := asD_sd w1 rv hx
        refine ⟨b, kvs, rfl, h1, fun l hp => q1 (ρ1 ++ [l]) _ (Ext.alloc hp) (w1.alloc hp ⟨kvs, upd_same, h2, h3, h4.ext (Ext.alloc hp)⟩) _ ?_⟩
        simp only [Rel]
        exact ⟨l, rfl, by rw [← w1.len]; simp⟩
    · cases h
theorem base_of {o : Expr} {nm : Str} {env : PySem.Env} (h : noCall o = true) : attributeBase o nm env (eval o env) = eval o env := by
  cases o with
  | Call f as ks pos =>
    cases as with
    | nil => cases h
    | cons a as => cases f <;> rfl
  | _ => rfl
theorem snd_mt (S : CxS g p n c W X) {o as : Ex} (m : MO) (ho : Snd g p n c W X o) (hs : Snd g p n c W X as) : Snd g p n c W X (.mt m o as) := by
  refine snd_plain S rfl rfl (fun e h => ?_) (fun e h => ?_)
  · split at h
    · rfl
    · cases h
  · split at h
    · rename_i x nm ap ys cp
      simp only [Bool.and_eq_true, decide_eq_true_eq, Bool.not_eq_true', decide_eq_false_iff_not] at h
      obtain ⟨⟨⟨⟨⟨⟨⟨h1, h2⟩, h3⟩, h4⟩, h5⟩, h6⟩, h7⟩, h8⟩ := h
      subst h1
      obtain ⟨st, pa⟩ := hs.s _ h7
      have hm : m ≠ .items ∧ m ≠ .index := ⟨h4, h5⟩
      have rd : ∀ σ H Q, SE g W (evA ⟨callN p n, p.gs⟩ (.mt m o as)).v σ H Q → SE g W (evA ⟨callN p n, p.gs⟩ o).v σ H fun V H1 => tyV X.K (moT m) V H1 ∧ SA g W (evA ⟨callN p n, p.gs⟩ as).s σ H1 fun Vs H2 => RM g m V Vs H2 Q := by
        rintro σ H Q ⟨ρ, st1, η, w, sl, q⟩
        refine ⟨ρ, st1, η, w, sl, (Post.bind q).imp fun v ρ1 st2 H1 e1 w1 q1 V rv => ?_⟩
        obtain ⟨k1, q1⟩ := if_ok q1
        refine ⟨mtOk_ty S.K w1 rv k1 hm, ρ1, st2, η, w1, sl.ext e1, (Post.bind q1).imp fun vs ρ2 st3 H2 e2 w2 q2 Vs rvs => ?_⟩
        cases hr : mtV m v vs st3 with
        | none => rw [hr] at q2; exact (show False from q2).elim
        | some r =>
          rw [hr] at q2
          obtain ⟨z, st4⟩ := r
          exact ⟨ρ2, st3, v, vs, z, st4, w2, rv.ext e2, rvs, hr, q2⟩
      cases ys with
      | nil =>
        refine PE.imp (pe_bm0 (mo_plain m) (mo_slot m hm) (mo_type m hm) (mt_all S.K m) (ho.v x h6) (base_of h2) h3) fun σ H Q q => ?_
        have q2 := rd σ H Q q
        obtain ⟨ρ, st1, η, w, sl, q2⟩ := q2
        refine ⟨ρ, st1, η, w, sl, q2.imp fun v ρ1 st2 H1 e1 w1 q3 V rv => ?_⟩
        obtain ⟨k1, k2⟩ := q3 V rv
        refine ⟨k1, ?_⟩
        obtain ⟨fs, t, ef⟩ := hs.l _ h7
        cases t
        rw [ef] at k2
        obtain ⟨ρ4, st4, η4, w4, sl4, k3⟩ := k2
        exact k3 ρ4 H1 Ext.refl w4 [] .nil
      | cons y ys =>
        refine PE.imp (pe_bm (mo_plain m) (mo_slot m hm) (mo_type m hm) (mt_all S.K m) (ho.v x h6) pa (base_of h2) ?_ h3 (star_cons (st _ List.mem_cons_self)) (star_any fun z hz => st z (List.mem_cons_of_mem _ hz))) rd
        rw [star_all st]
        simp only [keywordEach, backToKw, List.map_nil, List.all_nil, Bool.and_true, Bool.true_and, decide_eq_true_eq, List.isEmpty_nil, if_true, List.length_nil]
        simp only [Nat.add_zero]
        omega
    · cases h
theorem snd_isi (S : CxS g p n c W X) {a : Ex} (t : TyN) (ha : Snd g p n c W X a) : Snd g p n c W X (.isi t a) := by
  refine snd_plain S rfl rfl (fun e h => ?_) (fun e h => ?_)
  · split at h
    · rfl
    · cases h
  · split at h
    · rename_i x px y z pz pos
      simp only [Bool.and_eq_true] at h
      obtain ⟨⟨⟨h1, h2⟩, h3⟩, h4⟩ := h
      obtain ⟨gx, mx, rfl⟩ := blt_of S h1 (by decide)
      obtain ⟨gz, mz, rfl⟩ := blt_of S h2 (by cases t <;> decide)
      have ty : PE X (.Name (tyS t : Str) pz) (tC (.ty (tyS t))) := by
        refine pe_bltn gz mz (u := .type (tyS t)) ?_ rfl ?_ ?_
        · cases t <;> decide +kernel
        · cases t <;> decide +kernel
        · cases t <;> decide +kernel
      refine PE.imp (pe_callB (isi_all S.K t) gx mx (by decide +kernel) (pa_cons (ha.v y h4) (pa_cons ty pa_nil (by rfl)) (star_cons h3)) (by decide +kernel) (by decide +kernel) (star_cons h3) (by rfl)) ?_
      rintro σ H Q ⟨ρ, st1, η, w, sl, q⟩
      refine ⟨ρ, st1, η, w, sl, (Post.bind q).imp fun v ρ1 st2 H1 e1 w1 q1 V rv => ?_⟩
      obtain ⟨r, hr, q2⟩ := Post.opt q1
      cases hi : isiV t v with
      | none => rw [hi] at hr; cases hr
      | some b =>
        rw [hi] at hr
        cases hr
        exact ⟨ρ1, st2, v, b, V, w1, rv, rfl, hi, q2 ρ1 H1 Ext.refl w1 _ rel_bl⟩
    · cases h
theorem snd_call (S : CxS g p n c W X) {as : Ex} (f : Nat) (hs : Snd g p n c W X as) : Snd g p n c W X (.call f as) := by
  refine snd_plain S rfl rfl (fun e h => ?_) (fun e h => ?_)
  · split at h
    · rfl
    · cases h
  · split at h
    · rename_i x px ys pos
      simp only [Bool.and_eq_true] at h
      obtain ⟨⟨⟨h1, h2⟩, h3⟩, h4⟩ := h
      obtain ⟨d1, _, _⟩ := dbg_of h2
      split at h3
      · rename_i d hd
        have ex := of_decide_eq_true h3
        subst ex
        obtain ⟨st, pa⟩ := hs.s _ h4
        obtain ⟨fa, fd, F, mg, kp, bd⟩ := S.fns f d hd
        have rd : ∀ σ H Q, SE g W (evA ⟨callN p n, p.gs⟩ (.call f as)).v σ H Q → tCallS (spF g p n f) (WE W) (SA g W (evA ⟨callN p n, p.gs⟩ as).s) σ H Q := by
          rintro σ H Q ⟨ρ, st1, η, w, sl, q⟩
          refine ⟨ρ, st1, η, w, sl, (Post.bind q).imp fun vs ρ1 st2 H1 e1 w1 q1 Vs rvs => ?_⟩
          refine ⟨ρ1, st2, vs, w1, rvs, ⟨d, hd, ?_⟩, q1⟩
          -- the number of arguments
          cases n with
          | zero =>
            have q1 : Post g (fun c d H' => W c d σ H') ρ1 H1 (callN p 0 f vs st2) _ := q1
            rw [callN_zero] at q1
            exact (show False from q1).elim
          | succ n =>
            have q1 : Post g (fun c d H' => W c d σ H') ρ1 H1 (callN p (n + 1) f vs st2) _ := q1
            simp only [callN_succ, hd] at q1
            exact (if_ok q1).1
        cases ys with
        | nil =>
          refine PE.imp (⟨fun pins s σ H Q I q => ?_⟩ : PE X _ (tCallS (spF g p n f) (WE W) tNil)) fun σ H Q q => ?_
          · refine wpAny_Call_Name_kw (ld_glob I (S.gl h1) mg ?_ d1)
            exact PySem.W.callWith_K0 I.kIn kp (run_fnS (us := []) (vs := []) F S.room bd (passAt S.tk σ) I .nil q)
          · have q2 := rd σ H Q q
            obtain ⟨fs, t, ef⟩ := hs.l _ h4
            cases t
            rw [ef] at q2
            obtain ⟨ρ4, st4, η4, w4, sl4, k3⟩ := q2
            exact k3 ρ4 H Ext.refl w4 [] .nil
        | cons y ys =>
          exact PE.imp (pe_callS F S.room (S.gl h1) mg kp bd (fun σ => passAt S.tk σ) pa d1 (star_cons (st _ List.mem_cons_self)) (star_any fun z hz => st z (List.mem_cons_of_mem _ hz))) rd
      · cases h3
    · cases h
end
end Mi
namespace Mi
open PySem L2

section
variable {g : Gd} {p : Prg} {n : Nat} {c : CC} {W : WX} {X : Cx}
theorem wk_rng {ρ : List Addr} {H : Hp} (lo : Int) (m : Nat) : Wk g (Itr lo m) none ((List.range m).map fun (k : Nat) => Val.int (lo + k)) ρ H := by
  intro ρ' st' H' e w ck
  refine ⟨fun i x hx => ?_, fun i hi => ?_⟩
  · rw [List.getElem?_map] at hx
    cases q : (List.range m)[i]? with
    | none => rw [q] at hx; cases hx
    | some k =>
      rw [q] at hx
      cases hx
      obtain ⟨h1, h2⟩ := List.getElem?_eq_some_iff.mp q
      simp at h1 h2
      subst h2
      refine ⟨h1, fun V H2 y => ?_⟩
      obtain ⟨e2, rfl⟩ := y
      exact ⟨e2, rel_int⟩
  · simp at hi
    exact hi
theorem snd_rng1 (S : CxS g p n c W X) {a : Ex} (ha : Snd g p n c W X a) : Snd g p n c W X (.rng1 a) := by
  refine ⟨fun e h => ?_, fun e h => ?_, fun op vs pos h => ?_, fun es h => ?_, fun oe h => ?_, fun tg e h => ?_, fun es h => ?_⟩
  · exact (nomatch (show false = true from h))
  · exact (nomatch (show false = true from h))
  · exact (nomatch (show false = true from h))
  · exact (nomatch (show false = true from h))
  · exact (nomatch (show false = true from h))
  · simp only [chk] at h
    split at h
    · rename_i x px y pos
      simp only [Bool.and_eq_true] at h
      obtain ⟨gx, mx, rfl⟩ := blt_of S h.1.1 (by decide)
      refine PI.imp (pi_range1 gx mx (pa_cons (ha.v y h.2) pa_nil (star_cons h.1.2)) (by rw [star_cons h.1.2]; rfl)) ?_
      rintro σ H R ⟨ρ, st1, η, w, sl, q⟩
      refine ⟨ρ, st1, η, w, sl, (Post.bind q).imp fun v ρ1 st2 H1 e1 w1 q1 V rv => ?_⟩
      cases v with
      | int j =>
        obtain ⟨k1, q1⟩ := if_ok q1
        simp only [Rel] at rv
        subst rv
        refine ⟨j, rfl, by omega, by omega, (q1 ρ1 H1 Ext.refl w1).2 _ ?_⟩
        have := wk_rng (g := g) (ρ := ρ1) (H := H1) 0 j.toNat
        simpa using this
      | _ => exact (show False from q1).elim
    · cases h
  · exact (nomatch (show false = true from h))
theorem snd_rng2 (S : CxS g p n c W X) {a b : Ex} (ha : Snd g p n c W X a) (hb : Snd g p n c W X b) : Snd g p n c W X (.rng2 a b) := by
  refine ⟨fun e h => ?_, fun e h => ?_, fun op vs pos h => ?_, fun es h => ?_, fun oe h => ?_, fun tg e h => ?_, fun es h => ?_⟩
  · exact (nomatch (show false = true from h))
  · exact (nomatch (show false = true from h))
  · exact (nomatch (show false = true from h))
  · exact (nomatch (show false = true from h))
  · exact (nomatch (show false = true from h))
  · simp only [chk] at h
    split at h
    · rename_i x px y z pos
      simp only [Bool.and_eq_true] at h
      obtain ⟨⟨⟨⟨h1, h2⟩, h3⟩, h4⟩, h5⟩ := h
      obtain ⟨gx, mx, rfl⟩ := blt_of S h1 (by decide)
      refine PI.imp (pi_range2 gx mx (pa_cons (ha.v y h4) (pa_cons (hb.v z h5) pa_nil (star_cons h3)) (star_cons h2)) (by rw [star_cons h2, star_cons h3]; rfl) (by rw [star_cons h3]; rfl)) ?_
      rintro σ H R ⟨ρ, st1, η, w, sl, q⟩
      refine ⟨ρ, st1, η, w, sl, (Post.bind q).imp fun v ρ1 st2 H1 e1 w1 q1 V rv => ?_⟩
      refine ⟨ρ1, st2, η, w1, sl.ext e1, (Post.bind q1).imp fun u ρ2 st3 H2 e2 w2 q2 U ru => ?_⟩
      cases v with
      | int i =>
        cases u with
        | int j =>
          obtain ⟨k1, q2⟩ := if_ok q2
          simp only [Rel] at rv ru
          subst rv ru
          exact ⟨i, j, rfl, ⟨by omega, by omega, by omega, by omega⟩, (q2 ρ2 H2 Ext.refl w2).2 _ (wk_rng i _)⟩
        | _ => exact (show False from q2).elim
      | _ => exact (show False from q2).elim
    · cases h
  · exact (nomatch (show false = true from h))

/-! targets -/
def Tg.has : Tg → Nat → Prop
  | .nm j, i => i = j
  | .tp js, i => i ∈ js
def TGR (g : Gd) (tg : Tg) : TG := fun V σ H Q => ∃ ρ st η v, Wd g ρ st H ∧ Slots g ρ H η σ ∧ Rel g ρ H v V ∧ ∃ η', asgTg tg v η = some η' ∧ ∀ σ', Slots g ρ H η' σ' → (∀ i, ¬ tg.has i → σ'[i]? = σ[i]?) → σ'.length = σ.length → Q σ' H
theorem asgs_rd {ρ : List Addr} {H : Hp} (S : CxS g p n c W X) : ∀ {is : List Nat} {es : List Expr}, is.length = es.length → ((is.zip es).all fun q => match q.2 with
      | .Name x _ => decide (c.N[q.1]? = some x) && tgB c x && noDbg x
      | _ => false) = true →
    ∃ t, PGs X es t ∧ (assignEach es X.env).length = es.length ∧ (assignEach es X.env).findIdx? (·.1) = none ∧ ∀ (xs : List Val) (vs : List V) (η η' : Env) (σ : St) (Q : St → Hp → Prop), Slots g ρ H η σ → Rels g ρ H xs vs → asgs is xs η = some η' →
      (∀ σ', Slots g ρ H η' σ' → (∀ i, i ∉ is → σ'[i]? = σ[i]?) → σ'.length = σ.length → Q σ' H) → t vs σ H Q
  | [], [], _, _ => by
    refine ⟨gNil, pgs_nil, rfl, rfl, fun xs vs η η' σ Q sl r h k => ?_⟩
    cases xs with
    | cons _ _ => simp [asgs] at h
    | nil =>
      simp only [asgs, Option.some.injEq] at h
      subst h
      simp only [Rels] at r
      exact ⟨r, k σ sl (fun _ _ => rfl) rfl⟩
  | [], _ :: _, h, _ => by cases h
  | _ :: _, [], h, _ => by cases h
  | i :: is, e :: es, hl, h => by
    simp only [List.zip_cons_cons, List.all_cons, Bool.and_eq_true] at h
    obtain ⟨h1, h2⟩ := h
    obtain ⟨t, a1, a2, a3, a4⟩ := asgs_rd S (is := is) (es := es) (by simpa using hl) h2
    split at h1
    · rename_i x pos
      simp only [Bool.and_eq_true, decide_eq_true_eq] at h1
      obtain ⟨k1, k2⟩ := S.tg h1.1.2
      refine ⟨_, pgs_cons (pg_name (i := i) (by rw [S.N]; exact S.nd) (by rw [S.N]; exact h1.1.1) k1 k2) a1 rfl, by simp [assignEach, a2], ?_, fun xs vs η η' σ Q sl r hh k => ?_⟩
      · rw [show assignEach (Expr.Name x pos :: es) X.env = (false, assign (.Name x pos) X.env) :: assignEach es X.env from rfl, List.findIdx?_cons]
        simp [a3]
      · cases xs with
        | nil => simp [asgs] at hh
        | cons v xs =>
          simp only [asgs] at hh
          obtain ⟨V, r', rfl, r1, r2⟩ := r.cons_inv
          refine ⟨V, r', rfl, ?_⟩
          refine a4 xs r' (η.set i (some v)) η' (σ.set i (some V)) Q (sl.set i r1) r2 hh fun σ' s1 s2 s3 => k σ' s1 (fun j hj => ?_) (by rw [s3, List.length_set])
          simp only [List.mem_cons, not_or] at hj
          rw [s2 j hj.2, List.getElem?_set_ne (fun z => hj.1 z.symm)]
    · cases h1
theorem tg_rd (S : CxS g p n c W X) {tg : Tg} {e : Expr} (h : tgOk c tg e = true) : PG X e (TGR g tg) := by
  refine ⟨fun pins s σ H V u Q I r q => ?_⟩
  obtain ⟨ρ, st, η, v, w, sl, rv, η', ha, k⟩ := q
  cases tg with
  | nm i =>
    cases e with
    | Name x pos =>
      simp only [tgOk, Bool.and_eq_true, decide_eq_true_eq] at h
      obtain ⟨k1, k2⟩ := S.tg h.1.2
      simp only [asgTg, Option.some.injEq] at ha
      subst ha
      refine (pg_name (i := i) (by rw [S.N]; exact S.nd) (by rw [S.N]; exact h.1.1) k1 k2).run pins s σ H V u Q I r (k _ (sl.set i rv) (fun j hj => ?_) (by rw [List.length_set]))
      rw [List.getElem?_set_ne (fun z => hj z.symm)]
    | _ => exact (nomatch (show false = true from h))
  | tp is =>
    cases e with
    | Tuple es kk pos =>
      simp only [tgOk, Bool.and_eq_true, beq_iff_eq] at h
      obtain ⟨t, a1, a2, a3, a4⟩ := asgs_rd (ρ := ρ) (H := H) S h.1 h.2
      cases v with
      | tup xs =>
        simp only [asgTg] at ha
        obtain ⟨a, vs, rfl, h1, h2, h3⟩ := tup_sd rv
        refine (pg_tup S.calm a1 a2 a3).run pins s σ H _ u Q I r ⟨a, vs, rfl, S.K ▸ h1, ?_, a4 xs vs η η' σ Q sl h3 ha k⟩
        have : ∀ (is : List Nat) (xs : List Val) (η η' : Env), asgs is xs η = some η' → is.length = xs.length := by
          intro is
          induction is with
          | nil => intro xs η η' hh; cases xs with | nil => rfl | cons _ _ => simp [asgs] at hh
          | cons i is ih => intro xs η η' hh; cases xs with | nil => simp [asgs] at hh | cons x xs => simp only [asgs] at hh; simp [ih _ _ _ hh]
        rw [← h3.length, ← this _ _ _ _ ha, h.1]
      | _ => simp [asgTg] at ha
    | _ => exact (nomatch (show false = true from h))
end
end Mi
namespace Mi
open PySem L2 PySem.Spec PyProof.Rows

abbrev pr1 (y : Str) (ap : Pos) : Arguments := ⟨[], [⟨y, none, ap⟩], none, [], [], none, []⟩
abbrev sc1 (y : Str) : Scope := ⟨.function, [(y, .local)], false, false, []⟩
abbrev bd1 (y : Str) (j : Nat) (p1 p2 p3 : Pos) : Expr := .Subscript (.Name y p1) (.Constant (.int 0) j p2) p3
theorem bind1 {q y : Str} {ap : Pos} {body : Expr} {sc : Scope} {cl : List (Str × Addr)} {pm cv ctv v : Value} :
    bindArgs (PySem.W.kla_fn "<lambda>" q (pr1 y ap) body sc cl pm cv ctv) ⟨[v], []⟩ = pure [(y, v)] := by
  have e : ([(y, v)] : List (Str × Value)).lookup y = some v := by simp [List.lookup]
  simp [bindArgs, PySem.W.kla_fn, seqItems?, notAStandIn, e]
  try rfl
theorem lam_turn {prog : Program} {w : World} {A : Around} {s : Shared} {f c' t : Addr} {qual y : Str} {ap p1 p2 p3 : Pos} {j : Nat} {cl : List (Str × Addr)} {pm ctv : Value} {z : Str} {tk : Tok} {rest : List Value}
    (hd : A.depth < recursionLimit) (lim : s.heap.NoLimit) (hdb : (y == ("__debug__" : Str)) = false)
    (hf : s.heap.get? f = some (PySem.W.kla_obj "<lambda>" qual (pr1 y ap) (bd1 y j p1 p2 p3) (sc1 y) cl pm c' ctv)) (hc : s.heap.CodeRec (.ref c') qual)
    (ht : IsTup s.heap t (Value.str z tk :: rest).toArray) :
    wpAny (model prog w) A (call (.ref f) [.ref t]) (PySem.W.KeyPure (.str z) s) (fun _ _ => False) s := by
  refine wpAny_call (PySem.W.kla_callFunE hd hf rfl rfl rfl rfl hc ?_)
  rw [bind1]
  refine wpAny_pure (wpAny_newFunctionEnv (by simp) (by simp [List.lookup]) (fun h₁ hns hsb => ⟨lim.fresh _ hsb, ?_⟩) rfl)
  refine PySem.W.kla_codeExpr ?_
  have kp : ∀ b o, s.heap.get? b = some o → h₁.get? b = some o := fun b o e => hsb.extBut b o (Nat.ne_of_lt (Heap.lt_size e)) (Heap.get?_push_of_some _ e)
  refine Subscript_ (wpAny_Name (wpAny_loadName_local rfl (by simp [Env.kindOf, newEnv, List.lookup]) hns (v := .ref t) (by simp [List.lookup]) ?_) hdb)
  refine wpAny_Constant_int ?_
  have ht1 : IsTup h₁ t (Value.str z tk :: rest).toArray := by
    obtain ⟨o, e, r⟩ := ht
    exact ⟨o, kp _ _ e, r⟩
  refine item_tuple (j := 0) (x := .str z tk) ht1 (by decide) (by decide) ?_ (by simp) ?_
  · simp [seqIndex?]
  · exact ⟨h₁, _, rfl, kp, .str z tk⟩

/-! rows by their texts -/
def LeK (x y : Txt × Val) : Prop := ltT y.1 x.1 = false
theorem insK_perm (x : Txt × Val) : ∀ l : List (Txt × Val), (insK x l).Perm (x :: l)
  | [] => .refl _
  | y :: ys => by
    unfold insK
    split
    · exact ((insK_perm x ys).cons y).trans (.swap ..)
    · exact .refl _
theorem sortKs_perm : ∀ l : List (Txt × Val), (sortKs l).Perm l
  | [] => .refl _
  | x :: xs => (insK_perm x _).trans ((sortKs_perm xs).cons x)
theorem insK_sorted (x : Txt × Val) : ∀ {l : List (Txt × Val)}, l.Pairwise LeK → (insK x l).Pairwise LeK
  | [], _ => by simp [insK]
  | y :: ys, h => by
    obtain ⟨h1, h2⟩ := List.pairwise_cons.mp h
    unfold insK
    split
    · rename_i q
      refine List.pairwise_cons.mpr ⟨fun z hz => ?_, insK_sorted x h2⟩
      rcases List.mem_cons.mp ((insK_perm x ys).mem_iff.mp hz) with rfl | hz
      · exact ltT_asymm q
      · exact h1 z hz
    · rename_i q
      have q : ltT y.1 x.1 = false := by simpa using q
      refine List.pairwise_cons.mpr ⟨fun z hz => ?_, h⟩
      rcases List.mem_cons.mp hz with rfl | hz
      · exact q
      · exact ltT_le q (h1 z hz)
theorem sortKs_sorted : ∀ l : List (Txt × Val), (sortKs l).Pairwise LeK
  | [] => List.Pairwise.nil
  | x :: xs => insK_sorted x (sortKs_sorted xs)
theorem nodup_key {l : List (Txt × Val)} (nd : (l.map (·.1)).Nodup) : ∀ {x y : Txt × Val}, x ∈ l → y ∈ l → x.1 = y.1 → x = y := by
  induction l with
  | nil => intro x y h; cases h
  | cons a l ih =>
    intro x y hx hy e
    obtain ⟨n1, n2⟩ := List.nodup_cons.mp nd
    rcases List.mem_cons.mp hx with h1 | h1 <;> rcases List.mem_cons.mp hy with h2 | h2
    · rw [h1, h2]
    · exact (n1 (List.mem_map.mpr ⟨y, h2, by rw [← e, h1]⟩)).elim
    · exact (n1 (List.mem_map.mpr ⟨x, h1, by rw [e, h2]⟩)).elim
    · exact ih n2 h1 h2 e
theorem sortK_uniq {a l : List (Txt × Val)} (nd : (l.map (·.1)).Nodup) (h1 : a.Pairwise LeK) (p : a.Perm l) : a = sortKs l :=
  List.Perm.eq_of_pairwise (fun x y hx hy h k => nodup_key nd (p.mem_iff.mp hx) ((sortKs_perm l).mem_iff.mp hy) (ltT_tri k h)) h1 (sortKs_sorted l) (p.trans (sortKs_perm l).symm)
theorem le_key {x y : (Txt × Val) × V} : PySem.W.dataLe false (fun b : (Txt × Val) × V => PyData.str (tx b.1.1)) x y = !ltT y.1.1 x.1.1 := by
  show (!PyProof.Rows.lexLt PyProof.Rows.itemOrd (PySem.W.keyToks (.str (tx y.1.1))) (PySem.W.keyToks (.str (tx x.1.1)))) = _
  simp only [PySem.W.keyToks, tx_list]
  have : PyProof.Rows.lexLt PyProof.Rows.itemOrd [Sum.inr y.1.1] [Sum.inr x.1.1] = ltT y.1.1 x.1.1 := by
    rw [PyProof.Rows.lex_cons]
    rw [show PyProof.Rows.itemOrd.blt (Sum.inr y.1.1) (Sum.inr x.1.1) = ltT y.1.1 x.1.1 from by
      first
      | exact ltT_cps _ _
      | exact lt_ltT _ _
      | (show PyProof.Rows.strKind.blt y.1.1 x.1.1 = _; simp only [PyProof.Rows.strKind]; first | exact ltT_cps _ _ | exact lt_ltT _ _)]
    rw [show PyProof.Rows.lexLt PyProof.Rows.itemOrd [] [] = false by simp [PyProof.Rows.lexLt], Bool.and_false, Bool.or_false]
  rw [this]
section
variable {g : Gd} {p : Prg} {n : Nat} {c : CC} {W : WX} {X : Cx}
/-- the world behind the making of a lambda -/
theorem lam_world {ρ : List Addr} {st : Store} {H1 H2 : Hp} (w : Wd g ρ st H1) (eN : LamX.ExtN H1 H2) (T2 : LamX.Tabs g.tb H2) : Ext ρ H1 ρ H2 ∧ Wd g ρ st H2 := by
  have e : Ext ρ H1 ρ H2 := ⟨⟨[], by simp⟩, fun a xs h => eN _ _ h (fun _ z => by cases z), fun a o u h => eN _ _ h (fun _ z => by cases z), fun a o h t n => ⟨eN _ _ h t, n⟩⟩
  have nt : ∀ {m : Nat} {ob : Ob} {a : Addr}, st[m]? = some ob → ρ[m]? = some a → ∃ u, H1 a = some u ∧ H2 a = some u ∧ ∀ φ, u ≠ .ext φ := fun {m ob a} h1 h2 => by
    have ob' := w.ob m ob a h1 h2
    cases ob with
    | lst xs => obtain ⟨vs, k, _⟩ := ob'; exact ⟨_, k, eN _ _ k (fun _ z => by cases z), fun _ z => by cases z⟩
    | dct ks xs => obtain ⟨vs, k, _⟩ := ob'; exact ⟨_, k, eN _ _ k (fun _ z => by cases z), fun _ z => by cases z⟩
    | ins cc fs xs => obtain ⟨dx, vs, k, _⟩ := ob'; exact ⟨_, k, eN _ _ k (fun _ z => by cases z), fun _ z => by cases z⟩
    | dead => obtain ⟨o, u, k⟩ := ob'; exact ⟨_, k, eN _ _ k (fun _ z => by cases z), fun _ z => by cases z⟩
  refine ⟨e, w.len, w.nd, fun m ob a h1 h2 => ?_, fun q hq => ?_⟩
  · obtain ⟨u, k1, k2, _⟩ := nt h1 h2
    exact (w.ob m ob a h1 h2).ext e (k2.trans k1.symm)
  · obtain ⟨ps, h1, h2, h3⟩ := T2 q hq
    refine ⟨(w.tb q hq).1, ps, h1, h2, fun pos cv hc => ?_⟩
    obtain ⟨cc, e1, e2⟩ := h3 pos cv hc
    refine ⟨cc, e1, fun hm => ?_, e2⟩
    obtain ⟨m, hm, em⟩ := List.getElem_of_mem hm
    have hm' : m < st.length := by rw [← w.len]; exact hm
    obtain ⟨u, _, k2, k3⟩ := nt (List.getElem?_eq_getElem hm') (by rw [List.getElem?_eq_getElem hm, em])
    rw [e2] at k2
    exact k3 _ (Option.some.inj k2).symm
theorem rows_of : ∀ {xs : List Val} {ps : List (Txt × Val)}, rowsOf xs = some ps → ps.map (·.2) = xs ∧ ∀ q ∈ ps, ∃ r, q.2 = .tup (.str q.1 :: r)
  | [], ps, h => by
    simp only [rowsOf, Option.some.injEq] at h
    subst h; exact ⟨rfl, fun q hq => by cases hq⟩
  | x :: xs, ps, h => by
    match x, h with
    | .tup (.str k :: r), h =>
      simp only [rowsOf, Option.map_eq_some_iff] at h
      obtain ⟨qs, h1, rfl⟩ := h
      obtain ⟨a, b⟩ := rows_of h1
      refine ⟨by rw [List.map_cons, a], fun q hq => ?_⟩
      rcases List.mem_cons.mp hq with rfl | hq
      · exact ⟨r, rfl⟩
      · exact b q hq
    | .non, h | .bl _, h | .int _, h | .str _, h | .lst _, h | .dct _ _, h | .loc _, h => simp [rowsOf] at h
    | .tup [], h => simp [rowsOf] at h
    | .tup (.non :: _), h | .tup (.bl _ :: _), h | .tup (.int _ :: _), h | .tup (.tup _ :: _), h | .tup (.lst _ :: _), h | .tup (.dct _ _ :: _), h | .tup (.loc _ :: _), h => simp [rowsOf] at h
theorem rels_zip {ρ : List Addr} {H : Hp} : ∀ {ps : List (Txt × Val)} {us : List V}, Rels g ρ H (ps.map (·.2)) us → ∀ b ∈ ps.zip us, Rel g ρ H b.1.2 b.2
  | [], us, _, b, hb => by simp at hb
  | q :: ps, us, h, b, hb => by
    obtain ⟨v, r, rfl, h1, h2⟩ := h.cons_inv
    rcases List.mem_cons.mp hb with rfl | hb
    · exact h1
    · exact rels_zip h2 b hb
theorem rels_map {ρ : List Addr} {H : Hp} : ∀ {bs : List ((Txt × Val) × V)}, (∀ b ∈ bs, Rel g ρ H b.1.2 b.2) → Rels g ρ H ((bs.map (·.1)).map (·.2)) (bs.map (·.2))
  | [], _ => .nil
  | b :: bs, h => .cons (h b List.mem_cons_self) (rels_map fun z hz => h z (List.mem_cons_of_mem _ hz))
theorem vals_each {R : Value → (Txt × Val) × V → Prop} : ∀ {vs : List V} {its : List Value} {ps : List (Txt × Val)}, Vals vs its → ps.length = vs.length → (∀ u b, RelV b.2 u → R u b) → PySem.W.EachIs R its (ps.zip vs)
  | [], its, ps, h, hl, k => by
    cases h
    cases ps with
    | nil => exact .nil
    | cons _ _ => cases hl
  | v :: vs, its, ps, h, hl, k => by
    cases ps with
    | nil => cases hl
    | cons q ps =>
      cases h with
      | cons h1 h2 => exact .cons (k _ _ h1) (vals_each h2 (by simpa using hl) k)
theorem each_vals : ∀ {its : List Value} {bs : List ((Txt × Val) × V)}, PySem.W.EachIs (fun v b => RelV b.2 v) its bs → Vals (bs.map (·.2)) its
  | _, _, .nil => .nil
  | _, _, .cons h t => .cons h (each_vals t)
theorem pe_sortK (S : CxS g p n c W X) (hl : c.lam = true) {f y : Str} {fp ap p1 p2 p3 lp kp pos : Pos} {j : Nat} {x : Expr} {Fa : Env → Store → Res Val} (hf : bltB c f "sorted" = true) (hst : noStar x = true) (hdb : noDbg y = true) (hx : PE X x (SE g W Fa)) :
    PE X (.Call (.Name f fp) [x] [⟨some (Str.ofString "key"), .Lambda (pr1 y ap) (bd1 y j p1 p2 p3) (sc1 y) lp, kp⟩] pos)
      (SE g W fun η st => (Fa η st).bind fun x st => match (asL st x).bind rowsOf with
        | some ps => if (ps.map (·.1)).Nodup then .ok (.lst ((sortKs ps).map (·.2))) st else .no
        | none => .no) := by
  obtain ⟨gx, mx, rfl⟩ := blt_of S hf (by decide)
  obtain ⟨cA, P, hcode, TB, hmem, huniq⟩ := S.lam hl
  refine ⟨fun pins s σ H Q I q => ?_⟩
  obtain ⟨ρ, st, η, w, sl, q⟩ := q
  refine wpAny_Call_Name_kw (ld_blt I gx mx (show bootBuiltins "sorted" = some (.builtin "sorted") by decide +kernel) ?_ (by decide) (by decide))
  have hpa : PA X [x] (tCons (SE g W Fa) tNil) := pa_cons hx pa_nil (star_cons hst)
  refine PyProof.Rows.callWith_kw (thn (hpa.run pos pins s σ H (fun vs H1 => ∃ V ρ1 st1 v, vs = [V] ∧ Wd g ρ1 st1 H1 ∧ Rel g ρ1 H1 v V ∧ Post g (fun c d H' => W c d σ H') ρ1 H1 (match (asL st1 v).bind rowsOf with
        | some ps => if (ps.map (·.1)).Nodup then .ok (.lst ((sortKs ps).map (·.2))) st1 else .no
        | none => .no) fun v ρ' _ H' => ∀ V, Rel g ρ' H' v V → Q V H') I ⟨ρ, st, η, w, sl, (Post.bind q).imp fun v ρ1 st1 H1 e1 w1 q1 V rv => ⟨V, ρ1, st1, v, rfl, w1, rv, q1⟩⟩) fun us s1 ⟨vs, H1, I1, r1, q1⟩ => ?_) (by rw [star_cons hst]; rfl) (star_any (es := [x]) (fun e he => by simp at he; rw [he]; exact hst)) (by rfl) (by rfl)
  obtain ⟨V, ρ1, st1, v, rfl, w1, rv, q1⟩ := q1
  cases hxs : asL st1 v with
  | none => rw [hxs] at q1; exact (show False from q1).elim
  | some xs =>
    rw [hxs] at q1
    cases hps : rowsOf xs with
    | none => simp only [Option.bind_some, hps] at q1; exact (show False from q1).elim
    | some ps =>
      simp only [Option.bind_some, hps] at q1
      obtain ⟨nd, q2⟩ := if_ok q1
      obtain ⟨a, us', rfl, hsq, hlen, hrel⟩ := asL_sd w1 rv hxs
      obtain ⟨erow, hrow⟩ := rows_of hps
      have hT : LamX.Tabs g.tb H1 := fun q hq => by
        obtain ⟨_, ps, k1, k2, k3⟩ := w1.tb q hq
        exact ⟨ps, k1, k2, fun pos cv hc => let ⟨c, e1, _, e2⟩ := k3 pos cv hc; ⟨c, e1, e2⟩⟩
      show wpAny _ _ (evalAll ((do let v ← eval (.Lambda (pr1 y ap) (bd1 y j p1 p2 p3) (sc1 y) lp) X.env; standAt pos; pure v) :: [])) _ _ s1
      refine wpAny_evalAll_cons (wpAny_bind (LamX.lam_make2 (T := g.tb) I1 TB hcode hmem huniq hT rfl (by simp) fun fA c' pm ctv H2 s2 I2 eN T2 hfo hfn hfr hco => wpAny_bind (wpAny_standAt (wpAny_pure (wpAny_evalAll_nil ?_)))))
      obtain ⟨e2, w2⟩ := lam_world w1 eN T2
      obtain ⟨u0, rfl⟩ : ∃ u, us = [u] := by cases r1 with | cons _ t => cases t; exact ⟨_, rfl⟩
      have eu : u0 = .ref a := by cases r1 with | cons h _ => exact h
      subst eu
      show wpAny _ _ (call (.builtin "sorted") [.ref a] [(Str.ofString "key", .ref fA)]) _ _ s2
      have hsq2 : SqL X.K H2 a us' := by
        rw [S.K]
        rcases hsq with (h | ⟨o, h⟩) | h
        · exact .inl (.inl (eN _ _ h (fun _ z => by cases z)))
        · exact .inl (.inr ⟨o, eN _ _ h (fun _ z => by cases z)⟩)
        · exact .inr h
      have hrel2 : Rels g ρ1 H2 (ps.map (·.2)) us' := by rw [erow]; exact hrel.ext e2
      have hpl : ps.length = us'.length := by have := hrel2.length; simpa using this
      have hz := rels_zip hrel2
      have hkey : ∀ b ∈ ps.zip us', b.1 ∈ ps := fun b hb => (List.of_mem_zip hb).1
      obtain ⟨its, rvals, pl, hzz⟩ := I2.list hsq2
      have fin : ∀ {out : List Value} {bs : List ((Txt × Val) × V)} {h' : Heap} {tk cc : Nat}, (∀ b o, s2.heap.get? b = some o → h'.get? b = some o) → h'.get? (s2.heap.objs.size + 1) = some (PyProof.Rows.seqObj "list" (List.toArray out) cc) →
          PySem.W.EachIs (fun v b => RelV b.2 v) out bs → (∀ b ∈ bs, Rel g ρ1 H2 b.1.2 b.2) → (bs.map (·.1)) = sortKs ps → bs.length ≤ sizeLine → EP X pins σ Q (.ref (s2.heap.objs.size + 1)) { s2 with heap := h', toks := tk } := fun {out bs h' tk cc} kp hD he hr ek hln => by
        refine EP.sh ⟨.ref _, upd H2 (s2.heap.objs.size + 1) (.lst (bs.map (·.2))), I2.laid (t' := tk) kp (Nat.le_succ _) ⟨by rw [List.length_map]; exact hln, out, cc, each_vals he, hD⟩, rfl, ?_⟩
        have rr := rels_map hr
        rw [ek] at rr
        refine shL w2 rr (by rw [List.length_map, ← ek, List.length_map]; exact hln) (fun ρ' H' e' w' V rV => q2 ρ' H' (e2.trans e') w' V rV) (I2.hok.fresh (Nat.le_succ _))
      have hzl : (ps.zip us').length ≤ sizeLine := by rw [List.length_zip, hpl, Nat.min_self]; exact hzz
      refine PySem.W.sorted_key_data (β := (Txt × Val) × V) (vs := its) (bs := ps.zip us') (R := fun v b => RelV b.2 v) (b := false) (f := .ref fA) (fun b => .str (tx b.1.1)) pl.isList (vals_each rvals hpl fun _ _ h => h) ?_ ?_ hzl ?_ (PyProof.Rows.ksk_s1 _ _) (fun x => PyProof.Rows.ksk_l1 _ _) (fun x => PyProof.Rows.ksk_t1 _ _) ?_ ?_
      · intro d hd d' hd'
        obtain ⟨_, _, rfl⟩ := List.mem_map.mp hd
        obtain ⟨_, _, rfl⟩ := List.mem_map.mp hd'
        simp [PySem.W.alike]
      · refine .inr fun d hd => ?_
        obtain ⟨_, _, rfl⟩ := List.mem_map.mp hd
        exact ⟨(by intro z; cases z), (by intro _ z; cases z)⟩
      · intro b _
        have := S.room.un
        simp only [PyData.depth]
        omega
      · intro u b hb hmb h tk kp'
        obtain ⟨r, er⟩ := hrow _ (hkey b hmb)
        have hrb := hz b hmb
        rw [er] at hrb
        simp only [Rel] at hrb
        obtain ⟨t, vs, ev, h1, _, h3⟩ := hrb
        obtain ⟨v1, vr, rfl, k1, _⟩ := h3.cons_inv
        simp only [Rel] at k1
        obtain ⟨rfl, _⟩ := k1
        rw [ev] at hb
        obtain rfl : u = .ref t := hb
        obtain ⟨its2, rv2, pl2, _⟩ := I2.tuple (a := t) (xs := .str (tx b.1.1) :: vr) (by rw [S.K]; exact sqT_of h1)
        obtain ⟨⟨oc, vs, t0, c1, c2, c3⟩, _, _⟩ := I2.hok c' _ hco
        have ht : IsTup h t its2.toArray := by
          obtain ⟨o, e, r⟩ := pl2
          exact ⟨o, kp' _ _ e, r⟩
        cases rv2 with
        | cons hv hr =>
          obtain ⟨tk2, rfl⟩ := hv
          refine lam_turn (s := { s2 with heap := h, toks := tk }) ?_ (I2.nolimit.keeps kp') (dbg_of hdb).1 (kp' _ _ hfo) ⟨c', oc, vs, t0, rfl, kp' _ _ c1, c2, c3⟩ ht
          have := S.room.dp
          show X.A.depth < _
          omega
      · intro out cc h' tk kp' _ hD hlen2 he
        have pm : ((ps.zip us').mergeSort (PySem.W.dataLe false fun b => .str (tx b.1.1))).Perm (ps.zip us') := List.mergeSort_perm ..
        refine fin kp' hD he (fun b hb => hz b (pm.mem_iff.mp hb)) ?_ (by rw [pm.length_eq]; exact hzl)
        refine sortK_uniq nd ?_ ?_
        · have T := PySem.W.sortLe_total (PyProof.Rows.listOrd PyProof.Rows.itemOrd) false fun b : (Txt × Val) × V => PySem.W.keyToks (.str (tx b.1.1))
          have so := List.pairwise_mergeSort (le := PySem.W.dataLe false fun b : (Txt × Val) × V => .str (tx b.1.1)) T.trans (fun a b => by rw [Bool.or_eq_true]; exact T.total a b) (ps.zip us')
          rw [List.pairwise_map]
          refine so.imp fun {x y} h => ?_
          rw [le_key] at h
          show ltT y.1.1 x.1.1 = false
          simpa using h
        · have := pm.map (·.1)
          rw [List.map_fst_zip (by omega)] at this
          exact this
theorem snd_sortK (S : CxS g p n c W X) {a : Ex} (ha : Snd g p n c W X a) : Snd g p n c W X (.sortK a) := by
  refine snd_plain S rfl rfl (fun e h => ?_) (fun e h => ?_)
  · split at h
    · rfl
    · cases h
  · split at h
    · simp only [Bool.and_eq_true, decide_eq_true_eq] at h
      obtain ⟨⟨⟨⟨⟨⟨⟨hl, hf⟩, hst⟩, rfl⟩, rfl⟩, rfl⟩, hdb⟩, hx⟩ := h
      exact pe_sortK S hl hf hst hdb (ha.v _ hx)
    · cases h
end
end Mi
namespace Mi
open PySem L2

theorem wipe_get (σ : St) : ∀ (vs : List Nat) (i : Nat), (wipe σ vs)[i]? = if i ∈ vs ∧ i < σ.length then some none else σ[i]?
  | [], i => by simp [wipe]
  | v :: vs, i => by
    unfold wipe
    by_cases e : v = i
    · subst e
      by_cases hl : v < σ.length
      · rw [List.getElem?_set_self (by rw [wipe_length]; exact hl), if_pos ⟨List.mem_cons_self, hl⟩]
      · rw [if_neg (fun z => hl z.2), List.getElem?_eq_none (by rw [List.length_set, wipe_length]; omega), List.getElem?_eq_none (by omega)]
    · rw [List.getElem?_set_ne e, wipe_get σ vs i]
      have : (i ∈ v :: vs) ↔ i ∈ vs := by
        simp only [List.mem_cons]
        exact ⟨fun z => z.elim (fun q => absurd q.symm e) id, .inr⟩
      simp only [this]
theorem wipe_same {σ σ2 : St} {vs : List Nat} (h : ∀ i, i ∉ vs → σ2[i]? = (wipe σ vs)[i]?) (hl : σ2.length = (wipe σ vs).length) : wipe σ2 vs = wipe σ vs := by
  apply List.ext_getElem?
  intro i
  rw [wipe_length] at hl
  rw [wipe_get σ2 vs i, wipe_get σ vs i, hl]
  by_cases hi : i ∈ vs
  · by_cases h2 : i < σ.length
    · rw [if_pos ⟨hi, h2⟩, if_pos ⟨hi, h2⟩]
    · rw [if_neg (fun z => h2 z.2), if_neg (fun z => h2 z.2), List.getElem?_eq_none (by omega), List.getElem?_eq_none (by omega)]
  · rw [if_neg (fun z => hi z.1), h i hi, wipe_get σ vs i, if_neg (fun z => hi z.1)]

section
variable {g : Gd} {p : Prg} {n : Nat} {c : CC} {W : WX} {X : Cx}
abbrev W0 : WX := fun _ _ _ _ => False
theorem takes_no {Y : Cx} : Takes Y W0 := fun _ _ x => by
  obtain ⟨_, _, _, _, _, _, _, _, _, _, _, _, _, _, _, _, z⟩ := x
  exact z.elim
theorem CxS.blk (S : CxS g p n c W X) {scope : Scope} (hk : scope.kind = .function) (s : Shared) (H : Hp) (C : Addr) (cl : List (Str × Addr)) (fp : List Addr) :
    CxS g p n (blkCC c scope) W0 (X.blk s H scope (compEnvC scope cl C X.env) fp) where
  K := S.K
  N := S.N
  nd := S.nd
  sc := by
    show relS scope X.env.scope = relS scope c.sc
    rw [S.sc]
  fk := hk
  fn := fun x h => h
  calm := S.calm
  room := S.room
  tk := takes_no
  po := PassesOwn.never
  bl := S.bl
  lam := fun h => nomatch (show false = true from h)
  gs := S.gs
  fns := S.fns
/-- what a comprehension ends with: a list that is locked, or one of the store -/
def lcEnd (nw : Bool) (xs : List Val) (st : Store) : Res Val := if nw then .ok (.loc st.length) (st ++ [.lst xs]) else .ok (.lst xs) st
/-- the turns of a list comprehension -/
theorem lc_turns (nw : Bool) (S : CxS g p n c W X) {E : Value → Option Addr → Hp → Prop} {tg : Tg} {vs : List Nat} {T : Env → Store → Res Bool} {El : Env → Store → Res Val} (hsub : ∀ i, tg.has i → i ∈ vs)
    {items : List Val} {m0 : Option Nat} {J : It} {ρ1 : List Addr} {H1 : Hp} {st1 : Store} {η : Env} {σ : St} {Q : VK} (w1 : Wd g ρ1 st1 H1) (sl : Slots g ρ1 H1 η σ) (wk : Wk g J m0 items ρ1 H1) {D : Addr} (hD : H1 D = none)
    (q : Post g E ρ1 H1 ((lcLoop (ckOf m0 items) tg (wipeE η vs) T El items [] st1).bind (lcEnd nw)) fun v ρ' _ H' => ∀ V, Rel g ρ' H' v V → Q V H') :
    ∃ Wi : Nat → Nat → Hp → Prop, (∃ m, Wi 0 m (upd H1 D (.lst []))) ∧ ∀ i m H, Wi i m H →
      (J.stop i H ∧ Sh Q (.ref D) H) ∨ (J.go i H ∧ ∃ Nx : Hp → Prop, (∀ H', Nx H' → ∃ m', m' < m ∧ Wi (i + 1) m' H') ∧ ∀ x H', J.yld i H x H' → TGR g tg x (wipe σ vs) H' fun σ2 H2 => wipe σ2 vs = wipe σ vs ∧ STt g W0 T σ2 H2 fun b H3 =>
        if b = true then SE g W0 El σ2 H3 fun y H4 => ∃ acc, H4 D = some (.lst acc) ∧ acc.length < sizeLine ∧ Nx (upd H4 D (.lst (acc ++ [y]))) else Nx H3) := by
  refine ⟨fun i m Hc => ∃ ρc stc acc us, m = items.length - i ∧ i ≤ items.length ∧ Ext ρ1 H1 ρc Hc ∧ Wd g ρc stc Hc ∧ D ∉ ρc ∧ Hc D = some (.lst us) ∧ Rels g ρc Hc acc us ∧ acc.length ≤ sizeLine ∧
      Post g E ρ1 H1 ((lcLoop (ckOf m0 items) tg (wipeE η vs) T El (items.drop i) acc stc).bind (lcEnd nw)) fun v ρ' _ H' => ∀ V, Rel g ρ' H' v V → Q V H', ?_, ?_⟩
  · exact ⟨items.length, ρ1, st1, [], [], by simp, Nat.zero_le _, Ext.new hD, w1.new hD, w1.fresh hD, upd_same, .nil, Nat.zero_le _, q⟩
  · rintro i m Hc ⟨ρc, stc, acc, us, rfl, hi, ec, wc, nD, hDc, rc, hl, qc⟩
    have nt : ∀ xs, Hc D ≠ some (.tup xs) := fun _ z => by rw [hDc] at z; cases z
    have nf : ∀ o u, Hc D ≠ some (.frz o u) := fun _ _ z => by rw [hDc] at z; cases z
    have outD : ∀ {ρ' : List Addr} {H' : Hp} {u : HO}, Ext ρ1 H1 ρ' H' → Ext ρ1 H1 ρ' (upd H' D u) := fun {ρ' H' u} e =>
      ⟨e.pre, fun b xs z => by rw [upd_ne (ne_of_none z hD)]; exact e.tup b xs z, fun b o u z => by rw [upd_ne (ne_of_none z hD)]; exact e.frz b o u z, fun b o z tb nb => by rw [upd_ne (ne_of_none z hD)]; exact e.keep b o z tb nb⟩
    by_cases hlt : i < items.length
    · rw [List.drop_eq_getElem_cons hlt] at qc
      simp only [lcLoop] at qc
      cases ck : ckOf m0 items stc with
      | false => rw [ck] at qc; exact (show False from qc).elim
      | true =>
        rw [ck] at qc
        simp only [if_true] at qc
        obtain ⟨wk1, _⟩ := wk ρc stc Hc ec wc ck
        obtain ⟨go, yl⟩ := wk1 i items[i] (List.getElem?_eq_getElem hlt)
        refine .inr ⟨go, fun H' => ∃ ρ' st' acc' us', i + 1 ≤ items.length ∧ Ext ρ1 H1 ρ' H' ∧ Wd g ρ' st' H' ∧ D ∉ ρ' ∧ H' D = some (.lst us') ∧ Rels g ρ' H' acc' us' ∧ acc'.length ≤ sizeLine ∧
            Post g E ρ1 H1 ((lcLoop (ckOf m0 items) tg (wipeE η vs) T El (items.drop (i + 1)) acc' st').bind (lcEnd nw)) fun v ρ' _ H' => ∀ V, Rel g ρ' H' v V → Q V H',
          fun H' ⟨ρ', st', acc', us', h1, h2⟩ => ⟨items.length - (i + 1), by omega, ρ', st', acc', us', rfl, h1, h2⟩, fun V H' y => ?_⟩
        obtain ⟨rfl, rv⟩ := yl V H' y
        cases ha : asgTg tg items[i] (wipeE η vs) with
        | none => rw [ha] at qc; exact (show False from qc).elim
        | some η1 =>
          rw [ha] at qc
          dsimp only at qc
          have slc : Slots g ρc H' (wipeE η vs) (wipe σ vs) := (sl.ext ec).wipe vs
          refine ⟨ρc, stc, wipeE η vs, items[i], wc, slc, rv, η1, ha, fun σ2 s2 eq2 len2 => ⟨wipe_same (fun k hk => eq2 k ?_) len2, ?_⟩⟩
          · exact fun z => hk (hsub k z)
          · refine ⟨ρc, stc, η1, wc, s2, ?_⟩
            cases hT : T η1 stc with
            | no => rw [hT] at qc; exact (show False from qc).elim
            | ex x st' => rw [hT] at qc; exact (show False from qc).elim
            | ok b st3 =>
              rw [hT] at qc
              simp only [Res.bindN] at qc
              intro ρ3 H3 e3 w3
              obtain ⟨hD3, nD3⟩ := e3.keep D _ hDc (fun _ z => by cases z) nD
              cases b with
              | false =>
                rw [if_neg (by decide)]
                exact ⟨ρ3, st3, acc, us, hlt, ec.trans e3, w3, nD3, hD3, rc.ext e3, hl, qc⟩
              | true =>
                rw [if_pos rfl]
                refine ⟨ρ3, st3, η1, w3, s2.ext e3, ?_⟩
                cases hE : El η1 st3 with
                | no => rw [hE] at qc; exact (show False from qc).elim
                | ex x st' => rw [hE] at qc; exact (show False from qc).elim
                | ok v st4 =>
                  rw [hE] at qc
                  dsimp only at qc
                  intro ρ4 H4 e4 w4 V4 r4
                  obtain ⟨hD4, nD4⟩ := e4.keep D _ hD3 (fun _ z => by cases z) nD3
                  by_cases hz : acc.length < sizeLine
                  · rw [if_pos hz] at qc
                    obtain ⟨w5, e5⟩ := Wd.beside (u := .lst (us ++ [V4])) w4 nD4 (fun _ z => by rw [hD4] at z; cases z) (fun _ _ z => by rw [hD4] at z; cases z) (fun _ z => by rw [hD4] at z; cases z) (fun _ z => by rw [hD4] at z; cases z)
                    refine ⟨us, hD4, by rw [← rc.length]; exact hz, ρ4, st4, acc ++ [v], us ++ [V4], hlt, outD ((ec.trans e3).trans e4), w5, nD4, upd_same, ?_, by rw [List.length_append]; exact hz, qc⟩
                    exact (((rc.ext e3).ext e4).append (.cons r4 .nil)).ext0 e5
                  · rw [if_neg hz] at qc; exact (show False from qc).elim
    · have hn : i = items.length := by omega
      subst hn
      rw [List.drop_length] at qc
      simp only [lcLoop] at qc
      cases ck : ckOf m0 items stc with
      | false => rw [ck] at qc; exact (show False from qc).elim
      | true =>
        rw [ck] at qc
        simp only [if_true] at qc
        obtain ⟨_, stop⟩ := wk ρc stc Hc ec wc ck
        cases nw with
        | true =>
        refine .inl ⟨stop _ (Nat.le_refl _), .inl ?_⟩
        have qc : Post g E ρ1 H1 (.ok (.loc stc.length) (stc ++ [.lst acc])) fun v ρ' _ H' => ∀ V, Rel g ρ' H' v V → Q V H' := qc
        have e0 : Ext0 ρc Hc (ρc ++ [D]) Hc := ⟨⟨[D], rfl⟩, fun _ _ h => h, fun _ _ _ h => h⟩
        refine qc (ρc ++ [D]) Hc ⟨?_, ec.tup, ec.frz, fun b o z tb nb => ?_⟩ ⟨by simp [wc.len], ?_, fun n ob a h1 h2 => ?_, fun q hq => ?tab⟩ _ ?_
        case tab =>
          obtain ⟨h0, ps, h1, h2, h3⟩ := wc.tb q hq
          have nm : ∀ {b : Addr}, b ∉ ρc → b ≠ D → b ∉ ρc ++ [D] := fun {b} k1 k2 => by
            simp only [List.mem_append, List.mem_singleton, not_or]
            exact ⟨k1, k2⟩
          refine ⟨nm h0 (fun z => by rw [z, hDc] at h1; cases h1), ps, h1, h2, fun pos cv hc => ?_⟩
          obtain ⟨cc, ee, n, hc'⟩ := h3 pos cv hc
          refine ⟨cc, ee, nm n fun z => ?_, hc'⟩
          rw [z, hDc] at hc'
          exact nomatch (Option.some.inj hc')
        · obtain ⟨m, hm⟩ := ec.pre
          exact ⟨m ++ [D], by rw [hm]; simp⟩
        · obtain ⟨k1, k2⟩ := ec.keep b o z tb nb
          refine ⟨k1, ?_⟩
          simp only [List.mem_append, List.mem_singleton, not_or]
          exact ⟨k2, ne_of_none z hD⟩
        · rw [List.nodup_append]
          refine ⟨wc.nd, by simp, fun a ha b hb e => ?_⟩
          have hb' : b = D := by simpa using hb
          subst hb'; subst e
          exact nD ha
        · by_cases hn : n < stc.length
          · rw [List.getElem?_append_left hn] at h1
            rw [List.getElem?_append_left (by rw [wc.len]; exact hn)] at h2
            exact (wc.ob n ob a h1 h2).ext0 e0 rfl
          · have hn1 : n = stc.length := by
              have := (List.getElem?_eq_some_iff.mp h1).1
              simp at this; omega
            subst hn1
            rw [List.getElem?_append_right (Nat.le_refl _)] at h1
            rw [List.getElem?_append_right (by rw [wc.len]; exact Nat.le_refl _)] at h2
            simp only [Nat.sub_self, List.getElem?_cons_zero, Option.some.injEq, wc.len] at h1 h2
            subst h1 h2
            exact ⟨us, hDc, hl, rc.ext0 e0⟩
        · simp only [Rel]
          exact ⟨D, rfl, by rw [← wc.len]; simp⟩
        | false =>
        have qc : Post g E ρ1 H1 (.ok (.lst acc) stc) fun v ρ' _ H' => ∀ V, Rel g ρ' H' v V → Q V H' := qc
        refine .inl ⟨stop _ (Nat.le_refl _), .inr ⟨D, .lst us, hDc, trivial, fun od => ?_⟩⟩
        obtain ⟨w5, e5⟩ := Wd.beside (u := .frz od (.lst us)) wc nD nt nf (fun _ z => by rw [hDc] at z; cases z) (fun _ z => by rw [hDc] at z; cases z)
        refine qc ρc _ (outD ec) w5 _ ?_
        simp only [Rel]
        exact ⟨D, us, rfl, .inl ⟨od, upd_same⟩, hl, rc.ext0 e5⟩
theorem lc_ck {ck : Store → Bool} {tg : Tg} {η : Env} {T : Env → Store → Res Bool} {El : Env → Store → Res Val} {xs acc : List Val} {st : Store} {E : Value → Option Addr → Hp → Prop} {ρ : List Addr} {H : Hp} {Q : List Val → List Addr → Store → Hp → Prop} (q : Post g E ρ H (lcLoop ck tg η T El xs acc st) Q) : ck st = true := by
  cases h : ck st with
  | true => rfl
  | false => cases xs <;> (simp only [lcLoop, h] at q; exact (show False from q).elim)
theorem own_ix {c : CC} (vs : List Nat) : (ownOf c vs).map (·.2) = vs := by
  unfold ownOf
  rw [List.map_map]
  exact List.map_id _
/-- the parts of a comprehension -/
structure LcP (p : Prg) (c : CC) (vs : List Nat) (tg : Tg) (it t el : Ex) (elt tgt iter : Expr) (ifs : List Expr) (scope : Scope) : Prop where
  ns : noSet iter = true
  fi : (chk p it c).i iter = true
  ok : blkC c.N c.sc scope (ownOf c vs) = true
  ft : tgOk (blkCC c scope) tg tgt = true
  sub : tgIn tg vs = true
  fe : (chk p el (blkCC c scope)).v elt = true
  fc : (match ifs with
    | [] => yesB t
    | [x] => (chk p t (blkCC c scope)).v x
    | _ => false) = true
theorem LcP.subs {vs : List Nat} {tg : Tg} {it t el : Ex} {elt tgt iter : Expr} {ifs : List Expr} {scope : Scope} (h : LcP p c vs tg it t el elt tgt iter ifs scope) : ∀ i, tg.has i → i ∈ vs := by
  intro i hi
  have := h.sub
  cases tg with
  | nm j =>
    have hi : i = j := hi
    subst hi
    simpa [tgIn] using this
  | tp js =>
    have hi : i ∈ js := hi
    have := List.all_eq_true.mp this i hi
    simpa using this
/-- a comprehension's reading -/
theorem lc_rd (nw : Bool) (S : CxS g p n c W X) {vs : List Nat} {tg : Tg} {it t el : Ex} {elt tgt iter : Expr} {ifs : List Expr} {scope : Scope} (h : LcP p c vs tg it t el elt tgt iter ifs scope) (hit : Snd g p n c W X it)
    (hb : ∀ (c' : CC) (X' : Cx), CxS g p n c' W0 X' → Snd g p n c' W0 X' t ∧ Snd g p n c' W0 X' el) {tt : TT} (htt : ∀ σ H Q, STt g W0 (evA ⟨callN p n, p.gs⟩ t).t σ H Q → tt σ H Q) :
    PI X tgt iter (SI g W (evA ⟨callN p n, p.gs⟩ it).i) ∧ BlkOk X.N X.env.scope scope (ownOf c vs) ∧ (∀ s H C cl fp, PG (X.blk s H scope (compEnvC scope cl C X.env) fp) tgt (TGR g tg)) ∧
    (∀ s H C cl fp, PE (X.blk s H scope (compEnvC scope cl C X.env) fp) elt (SE g W0 (evA ⟨callN p n, p.gs⟩ el).v)) ∧
    ∀ σ H Q, SE g W (evA ⟨callN p n, p.gs⟩ (if nw then .lcn vs tg it t el else .lc vs tg it t el)).v σ H Q → tLc (SI g W (evA ⟨callN p n, p.gs⟩ it).i) (TGR g tg) tt (SE g W0 (evA ⟨callN p n, p.gs⟩ el).v) ((ownOf c vs).map (·.2)) σ H (Sh Q) := by
  have ok : BlkOk c.N c.sc scope (ownOf c vs) := blkOk_by h.ok
  refine ⟨hit.i tgt iter h.fi, by rw [S.N, S.sc]; exact ok, fun s H C cl fp => tg_rd (S.blk ok.kind s H C cl fp) h.ft, fun s H C cl fp => (hb _ _ (S.blk ok.kind s H C cl fp)).2.v elt h.fe, ?_⟩
  have main : ∀ (nw : Bool) {F : Env → Store → Res Val}, (∀ η st, F η st = ((evA ⟨callN p n, p.gs⟩ it).i η st).bind fun p_ st => (lcLoop (ckOf p_.2 p_.1) tg (wipeE η vs) (evA ⟨callN p n, p.gs⟩ t).t (evA ⟨callN p n, p.gs⟩ el).v p_.1 [] st).bind (lcEnd nw)) →
      ∀ σ H Q, SE g W F σ H Q → tLc (SI g W (evA ⟨callN p n, p.gs⟩ it).i) (TGR g tg) tt (SE g W0 (evA ⟨callN p n, p.gs⟩ el).v) ((ownOf c vs).map (·.2)) σ H (Sh Q) := by
    rintro nw F hF σ H Q ⟨ρ, st, η, w, sl, q⟩
    rw [hF] at q
    rw [own_ix]
    refine ⟨ρ, st, η, w, sl, (Post.bind q).imp fun r ρ1 st1 H1 e1 w1 q1 => ⟨lc_ck (Post.bind q1), fun J wk D hD => ?_⟩⟩
    obtain ⟨Wi, a, b⟩ := lc_turns nw S h.subs w1 (sl.ext e1) wk hD q1
    refine ⟨Wi, a, fun i m H hw => ?_⟩
    rcases b i m H hw with z | ⟨z1, Nx, z2, z3⟩
    · exact .inl z
    · refine .inr ⟨z1, Nx, z2, fun x H' y => ?_⟩
      obtain ⟨ρ', st', η', v, k1, k2, k3, η2, k4, k5⟩ := z3 x H' y
      exact ⟨ρ', st', η', v, k1, k2, k3, η2, k4, fun σ' s1 s2 s3 => ⟨(k5 σ' s1 s2 s3).1, htt _ _ _ (k5 σ' s1 s2 s3).2⟩⟩
  cases nw
  case false => exact main false fun _ _ => rfl
  case true => exact main true fun _ _ => rfl
theorem lc_tests (S : CxS g p n c W X) {vs : List Nat} {tg : Tg} {it t el : Ex} {elt tgt iter : Expr} {ifs : List Expr} {scope : Scope} (h : LcP p c vs tg it t el elt tgt iter ifs scope)
    (hb : ∀ (c' : CC) (X' : Cx), CxS g p n c' W0 X' → Snd g p n c' W0 X' t ∧ Snd g p n c' W0 X' el) :
    ∃ tt : TT, (∀ s H C cl fp, PTs (X.blk s H scope (compEnvC scope cl C X.env) fp) ifs tt) ∧ ∀ σ H Q, STt g W0 (evA ⟨callN p n, p.gs⟩ t).t σ H Q → tt σ H Q := by
  have ok : BlkOk c.N c.sc scope (ownOf c vs) := blkOk_by h.ok
  have ht := h.fc
  split at ht
  · unfold yesB at ht
    split at ht
    · refine ⟨tYes, fun _ _ _ _ _ => pts_nil, ?_⟩
      rintro σ H Q ⟨ρ, st, η, w, sl, q⟩
      exact q ρ H Ext.refl w
    · cases ht
  · rename_i x
    exact ⟨_, fun s H C cl fp => pts_one ((hb _ _ (S.blk ok.kind s H C cl fp)).1.t x ht), fun _ _ _ q => q⟩
  · cases ht
theorem snd_lc (S : CxS g p n c W X) {vs : List Nat} {tg : Tg} {it t el : Ex} (hit : Snd g p n c W X it) (hb : ∀ (c' : CC) (X' : Cx), CxS g p n c' W0 X' → Snd g p n c' W0 X' t ∧ Snd g p n c' W0 X' el) : Snd g p n c W X (.lc vs tg it t el) := by
  refine snd_plain S rfl rfl (fun e h => ?_) (fun e h => ?_)
  · split at h
    · rfl
    · cases h
  · split at h
    · rename_i elt tgt iter ifs scope pos
      simp only [Bool.and_eq_true] at h
      obtain ⟨⟨⟨⟨⟨⟨h1, h2⟩, h3⟩, h4⟩, h5⟩, h6⟩, h7⟩ := h
      have L : LcP p c vs tg it t el elt tgt iter ifs scope := ⟨h1, h2, h3, h4, h5, h6, h7⟩
      obtain ⟨tt, a1, a2⟩ := lc_tests S L hb
      obtain ⟨b1, b2, b3, b4, b5⟩ := lc_rd false S L hit hb a2
      exact PE.imp (PE.sh (pe_lc S.calm (by rw [S.N]; exact S.nd) b1 b2 b3 a1 b4 (noFold h1))) b5
    · cases h
theorem snd_lcn (S : CxS g p n c W X) {vs : List Nat} {tg : Tg} {it t el : Ex} (hit : Snd g p n c W X it) (hb : ∀ (c' : CC) (X' : Cx), CxS g p n c' W0 X' → Snd g p n c' W0 X' t ∧ Snd g p n c' W0 X' el) : Snd g p n c W X (.lcn vs tg it t el) := by
  refine snd_plain S rfl rfl (fun e h => ?_) (fun e h => ?_)
  · split at h
    · rfl
    · cases h
  · split at h
    · rename_i elt tgt iter ifs scope pos
      simp only [Bool.and_eq_true] at h
      obtain ⟨⟨⟨⟨⟨⟨h1, h2⟩, h3⟩, h4⟩, h5⟩, h6⟩, h7⟩ := h
      have L : LcP p c vs tg it t el elt tgt iter ifs scope := ⟨h1, h2, h3, h4, h5, h6, h7⟩
      obtain ⟨tt, a1, a2⟩ := lc_tests S L hb
      obtain ⟨b1, b2, b3, b4, b5⟩ := lc_rd true S L hit hb a2
      exact PE.imp (PE.sh (pe_lc S.calm (by rw [S.N]; exact S.nd) b1 b2 b3 a1 b4 (noFold h1))) b5
    · cases h
/-- every expression -/
theorem snd : ∀ (ex : Ex) (c : CC) (W : WX) (X : Cx), CxS g p n c W X → Snd g p n c W X ex
  | .bad, _, _, _, S => snd_bad S
  | .var i, _, _, _, S => snd_var S i
  | .lit v, _, _, _, S => snd_lit S v
  | .glb i, _, _, _, S => snd_glb S i
  | .nil, _, _, _, S => snd_nil S
  | .cons a as, c, W, X, S => snd_cons S (snd a c W X S) (snd as c W X S)
  | .tup as, c, W, X, S => snd_tup S (snd as c W X S)
  | .lst as, c, W, X, S => snd_lst S (snd as c W X S)
  | .new as, c, W, X, S => snd_new S (snd as c W X S)
  | .dsp as, c, W, X, S => snd_dsp S (snd as c W X S)
  | .dnew as, c, W, X, S => snd_dnew S (snd as c W X S)
  | .bin o a b, c, W, X, S => snd_bin S o (snd a c W X S) (snd b c W X S)
  | .cmp o a b, c, W, X, S => snd_cmp S o (snd a c W X S) (snd b c W X S)
  | .isN y a, c, W, X, S => snd_isN S y (snd a c W X S)
  | .isB y bb a, c, W, X, S => snd_isB S y bb (snd a c W X S)
  | .neg a, c, W, X, S => snd_neg S (snd a c W X S)
  | .and a b, c, W, X, S => snd_and S (snd a c W X S) (snd b c W X S)
  | .or a b, c, W, X, S => snd_or S (snd a c W X S) (snd b c W X S)
  | .not a, c, W, X, S => snd_not S (snd a c W X S)
  | .ite t a b, c, W, X, S => snd_ite S (snd t c W X S) (snd a c W X S) (snd b c W X S)
  | .chain o1 o2 a b d, c, W, X, S => snd_chain S o1 o2 (snd a c W X S) (snd b c W X S) (snd d c W X S)
  | .ix a b, c, W, X, S => snd_ix S (snd a c W X S) (snd b c W X S)
  | .sl a lo hi, c, W, X, S => snd_sl S (snd a c W X S) (snd lo c W X S) (snd hi c W X S)
  | .fn f as, c, W, X, S => if h : f = .ssort then by
      subst h; exact snd_ssort S (snd as c W X S)
    else snd_fn S f h (snd as c W X S)
  | .lnew a, c, W, X, S => snd_lnew S (snd a c W X S)
  | .dcpy a, c, W, X, S => snd_dcpy S (snd a c W X S)
  | .sortK a, c, W, X, S => snd_sortK S (snd a c W X S)
  | .mt m o as, c, W, X, S => snd_mt S m (snd o c W X S) (snd as c W X S)
  | .dget _ _ _, _, _, _, _ => snd_ck0 rfl
  | .isi t a, c, W, X, S => snd_isi S t (snd a c W X S)
  | .call f as, c, W, X, S => snd_call S f (snd as c W X S)
  | .rng1 a, c, W, X, S => snd_rng1 S (snd a c W X S)
  | .rng2 a b, c, W, X, S => snd_rng2 S (snd a c W X S) (snd b c W X S)
  | .lc vs tg it t el, c, W, X, S => snd_lc S (snd it c W X S) fun c' X' S' => ⟨snd t c' W0 X' S', snd el c' W0 X' S'⟩
  | .lcn vs tg it t el, c, W, X, S => snd_lcn S (snd it c W X S) fun c' X' S' => ⟨snd t c' W0 X' S', snd el c' W0 X' S'⟩
end
end Mi
namespace Mi
open PySem L2

def noTup : Expr → Bool
  | .Tuple _ _ _ => false | _ => true
def noComp2 : Expr → Bool
  | .SetComp _ _ _ _ => false | .DictComp _ _ _ _ _ => false | _ => true
def isFrz : Sm → Bool
  | .frz _ => true | _ => false
/-- x = [..] on one line: the store lies within -/
def swB (c : CC) (x : Str) (px : Pos) (v : Expr) : Bool := match v with
  | .ListComp _ _ scope pos => (match kindIn c x with | some .local => true | _ => false) && px.line == pos.line && !(scope.names.any fun (n, k) => n == x && (k == .local || k == .cell))
  | _ => false
mutual
def ck1 (p : Prg) : Sm → CC → Stmt → Bool
  | .bad, _ => fun _ => true
  | .skip, _ => fun s => match s with
    | .Pass _ => true
    | _ => false
  | .seq _ _, _ => fun _ => false
  | .frz _, _ => fun _ => false
  | .asg i e, c => fun s => match s with
    | .Assign [.Name x px] v _ => decide (c.N[i]? = some x) && tgB c x && noDbg x && (chk p e c).v v && noComp2 v
    | _ => false
  | .asgT tg e, c => fun s => match s with
    | .Assign [t] v _ => tgOk c tg t && noComp v && noTup v && noStar t && (chk p e c).v v
    | _ => false
  | .put o k e, c => fun s => match s with
    | .Assign [.Subscript x y _] v _ => noSlice y && (chk p o c).v x && (chk p k c).v y && (chk p e c).v v
    | _ => false
  | .expr e, c => fun s => match s with
    | .Expr v _ => noComp v && (chk p e c).v v
    | _ => false
  | .ret e, c => fun s => match s with
    | .Return (some v) _ => (chk p e c).v v
    | _ => false
  | .retN, _ => fun s => match s with
    | .Return none _ => true
    | _ => false
  | .ite t a b, c => fun s => match s with
    | .If x ss1 ss2 _ => (chk p t c).v x && ckB p a c ss1 && ckB p b c ss2
    | _ => false
  | .for_ tg it body, c => fun s => match s with
    | .For t x ss [] _ => noSet x && tgOk c tg t && (chk p it c).i x && ckB p body c ss
    | _ => false
  | .brk, _ => fun s => match s with
    | .Break _ => true
    | _ => false
  | .cont, _ => fun s => match s with
    | .Continue _ => true
    | _ => false
def ckB (p : Prg) : Sm → CC → List Stmt → Bool
  | .bad, _ => fun _ => true
  | .skip, _ => fun ss => ss.isEmpty
  | .seq a b, c => fun ss => match isFrz a with
    | true => ckB p b c ss
    | false => (match ss with
      | s :: ss => ck1 p a c s && ckB p b c ss
      | [] => false)
  | _, _ => fun _ => false
end

def PostS (g : Gd) (W : WX) (ρ : List Addr) (H : Hp) (f : Fl) (D : Ends) : Prop := match f with
  | .nx η st => ∀ ρ' H' σ', Ext ρ H ρ' H' → Wd g ρ' st H' → Slots g ρ' H' η σ' → D.nx σ' H'
  | .rt v st => ∀ ρ' H' V, Ext ρ H ρ' H' → Wd g ρ' st H' → Rel g ρ' H' v V → D.rt V H'
  | .bk η st => ∀ ρ' H' σ', Ext ρ H ρ' H' → Wd g ρ' st H' → Slots g ρ' H' η σ' → D.bk σ' H'
  | .ct η st => ∀ ρ' H' σ', Ext ρ H ρ' H' → Wd g ρ' st H' → Slots g ρ' H' η σ' → D.ct σ' H'
  | .xc e η st => ∀ ρ' H' σ' cls d, Ext ρ H ρ' H' → Wd g ρ' st H' → Slots g ρ' H' η σ' → XR g ρ' H' e cls d → W cls d σ' H'
  | .no => False
def STS (g : Gd) (W : WX) (F : Env → Store → Fl) : TS := fun D σ H => ∃ ρ st η, Wd g ρ st H ∧ Slots g ρ H η σ ∧ PostS g W ρ H (F η st) D

section
variable {g : Gd} {p : Prg} {n : Nat} {c : CC} {W : WX} {X : Cx}
theorem PostS.mono {ρ ρ' : List Addr} {H H' : Hp} {f : Fl} {D : Ends} (h : PostS g W ρ H f D) (e : Ext ρ H ρ' H') : PostS g W ρ' H' f D := by
  cases f with
  | nx η st => exact fun ρ2 H2 σ2 e2 => h ρ2 H2 σ2 (e.trans e2)
  | rt η st => exact fun ρ2 H2 σ2 e2 => h ρ2 H2 σ2 (e.trans e2)
  | bk η st => exact fun ρ2 H2 σ2 e2 => h ρ2 H2 σ2 (e.trans e2)
  | ct η st => exact fun ρ2 H2 σ2 e2 => h ρ2 H2 σ2 (e.trans e2)
  | xc x η st => exact fun ρ2 H2 σ2 cls d e2 => h ρ2 H2 σ2 cls d (e.trans e2)
  | no => exact h
/-- an expression ahead of a statement's end -/
theorem PostS.fl {α : Type} {ρ : List Addr} {H : Hp} {σ : St} {η : Env} {r : Res α} {k : α → Store → Fl} {D : Ends} (sl : Slots g ρ H η σ) (h : PostS g W ρ H (r.fl η k) D) :
    Post g (fun c d H' => W c d σ H') ρ H r fun v ρ' st' H' => PostS g W ρ' H' (k v st') D := by
  cases r with
  | ok v st => exact fun ρ2 H2 e2 w2 => PostS.mono h e2
  | ex x st => exact fun ρ2 H2 cls d e2 w2 x2 => h ρ2 H2 σ cls d e2 w2 (sl.ext e2) x2
  | no => exact h
theorem sw_none {v : Expr} {t : Option Expr} {l : Nat} {env : PySem.Env} (h : noComp v = true) : swapsWith v t l env = pure false := by
  cases v <;> first | rfl | cases h
theorem ss_none {t v : Expr} {env : PySem.Env} (h : noTup v = true) : swappedStores [t] v env = pure none := by
  cases v <;> first | (cases t <;> rfl) | cases h
/-- freezing is nothing that runs -/
theorem frz_lock {ρ : List Addr} {st : Store} {H : Hp} {pins : List (Addr × Obj)} {σ : St} {s : Shared} {m : Nat} {a : Addr} {u : HO} (I : Inv X pins σ H s) (w : Wd g ρ st H) (hp : ρ[m]? = some a) (hu : H a = some u) (mu : Mut (some u)) (nt : ∀ xs, u ≠ .tup xs) (nf : ∀ o z, u ≠ .frz o z) :
    ∃ od, Inv X pins σ (upd H a (.frz od u)) s ∧ Ext ρ H ρ (upd H a (.frz od u)) ∧ Wd g ρ (st.set m .dead) (upd H a (.frz od u)) := by
  obtain ⟨od, I2⟩ := I.lock hu mu
  have e : Ext ρ H ρ (upd H a (.frz od u)) := Ext.write (List.mem_of_getElem? hp) (fun xs z => by rw [hu] at z; exact nt xs (Option.some.inj z)) (fun o v z => by rw [hu] at z; exact nf o v (Option.some.inj z))
  exact ⟨od, I2, e, w.write hp e ⟨_, _, upd_same⟩⟩
mutual
theorem frzV_sd {pins : List (Addr × Obj)} {σ : St} {s : Shared} {ρ : List Addr} : ∀ (k : Nat) (v : Val) (V : L2.V) (st : Store) (H : Hp) (r : Val × Store), Inv X pins σ H s → Wd g ρ st H → Rel g ρ H v V → frzV k v st = some r →
    ∃ H', Inv X pins σ H' s ∧ Ext ρ H ρ H' ∧ Wd g ρ r.2 H' ∧ Rel g ρ H' r.1 V
  | 0, v, V, st, H, r, _, _, _, h => by simp [frzV] at h
  | k + 1, v, V, st, H, r, I, w, rv, h => by
    cases v with
    | loc m =>
      simp only [frzV] at h
      simp only [Rel] at rv
      obtain ⟨a, rfl, hp⟩ := rv
      split at h
      · rename_i xs ex
        obtain ⟨us, h1, h2, h3⟩ := w.ob m _ a ex hp
        obtain ⟨od, I2, e2, w2⟩ := frz_lock I w hp h1 trivial (fun _ z => nomatch z) (fun _ _ z => nomatch z)
        cases hl : frzL k xs (st.set m .dead) with
        | none => rw [hl] at h; cases h
        | some q =>
          rw [hl] at h
          cases h
          obtain ⟨H3, I3, e3, w3, r3⟩ := frzL_sd k xs us _ _ q I2 w2 (h3.ext e2) hl
          refine ⟨H3, I3, e2.trans e3, w3, ?_⟩
          simp only [Rel]
          exact ⟨a, us, rfl, .inl ⟨od, e3.frz _ _ _ upd_same⟩, by rw [r3.length, ← h3.length]; exact h2, r3⟩
      · rename_i ks xs ex
        obtain ⟨kvs, h1, h2, h3, h4⟩ := w.ob m _ a ex hp
        obtain ⟨od, I2, e2, w2⟩ := frz_lock I w hp h1 trivial (fun _ z => nomatch z) (fun _ _ z => nomatch z)
        cases hl : frzL k xs (st.set m .dead) with
        | none => rw [hl] at h; cases h
        | some q =>
          rw [hl] at h
          cases h
          obtain ⟨H3, I3, e3, w3, r3⟩ := frzL_sd k xs _ _ _ q I2 w2 (h4.ext e2) hl
          refine ⟨H3, I3, e2.trans e3, w3, ?_⟩
          simp only [Rel]
          exact ⟨a, kvs, rfl, ⟨od, e3.frz _ _ _ upd_same⟩, by rw [r3.length, ← h4.length]; exact h2, h3, r3⟩
      · cases h
    | tup xs =>
      simp only [frzV] at h
      simp only [Rel] at rv
      obtain ⟨a, us, rfl, h1, h2, h3⟩ := rv
      cases hl : frzL k xs st with
      | none => rw [hl] at h; cases h
      | some q =>
        rw [hl] at h
        cases h
        obtain ⟨H3, I3, e3, w3, r3⟩ := frzL_sd k xs us _ _ q I w h3 hl
        refine ⟨H3, I3, e3, w3, ?_⟩
        simp only [Rel]
        refine ⟨a, us, rfl, ?_, by rw [r3.length, ← h3.length]; exact h2, r3⟩
        rcases h1 with h1 | h1
        · exact .inl (e3.tup _ _ h1)
        · exact .inr h1
    | _ =>
      simp only [frzV, Option.some.injEq] at h
      subst h
      exact ⟨H, I, Ext.refl, w, rv⟩
theorem frzL_sd {pins : List (Addr × Obj)} {σ : St} {s : Shared} {ρ : List Addr} : ∀ (k : Nat) (vs : List Val) (Vs : List L2.V) (st : Store) (H : Hp) (r : List Val × Store), Inv X pins σ H s → Wd g ρ st H → Rels g ρ H vs Vs → frzL k vs st = some r →
    ∃ H', Inv X pins σ H' s ∧ Ext ρ H ρ H' ∧ Wd g ρ r.2 H' ∧ Rels g ρ H' r.1 Vs
  | 0, vs, Vs, st, H, r, _, _, _, h => by simp [frzL] at h
  | k + 1, [], Vs, st, H, r, I, w, rv, h => by
    simp only [frzL, Option.some.injEq] at h
    subst h
    exact ⟨H, I, Ext.refl, w, rv⟩
  | k + 1, x :: xs, Vs, st, H, r, I, w, rv, h => by
    obtain ⟨V, Vr, rfl, r1, r2⟩ := rv.cons_inv
    simp only [frzL] at h
    cases h1 : frzV k x st with
    | none => rw [h1] at h; cases h
    | some q =>
      rw [h1] at h
      simp only [Option.bind_some] at h
      cases h2 : frzL k xs q.2 with
      | none => rw [h2] at h; cases h
      | some q2 =>
        rw [h2] at h
        cases h
        obtain ⟨H2, I2, e2, w2, a1⟩ := frzV_sd k x V st H q I w r1 h1
        obtain ⟨H3, I3, e3, w3, a2⟩ := frzL_sd k xs Vr q.2 H2 q2 I2 w2 (r2.ext e2) h2
        exact ⟨H3, I3, e2.trans e3, w3, .cons (a1.ext e3) a2⟩
end
theorem Slots.same {ρ : List Addr} {H : Hp} {η : Env} {σ : St} {i : Nat} {v : Val} {V : L2.V} (s : Slots g ρ H η σ) (h : σ[i]? = some (some V)) (r : Rel g ρ H v V) : Slots g ρ H (η.set i (some v)) σ := by
  have := s.set i r
  have e : σ.set i (some V) = σ := by
    apply List.ext_getElem?
    intro j
    by_cases hj : i = j
    · subst hj
      rw [List.getElem?_set_self (List.getElem?_eq_some_iff.mp h).1, h]
    · rw [List.getElem?_set_ne hj]
  rwa [e] at this

/-! stores by values -/
theorem put_all (hK : X.K = g.K) (hu : X.A.units + 64 < cLine) : PSet X (fun o i v H Q => ∃ ρ st x y z st', Wd g ρ st H ∧ Rel g ρ H x o ∧ Rel g ρ H y i ∧ Rel g ρ H z v ∧ putV x y z st = some st' ∧ ∀ H', Ext ρ H ρ H' → Wd g ρ st' H' → Q H') := by
  intro pins s σ H o i v ov iv u Q I ro ri rv h
  obtain ⟨ρ, st, x, y, z, st', w, rx, ry, rz, hp, q⟩ := h
  unfold putV at hp
  split at hp
  · rename_i m
    simp only [Rel] at rx
    obtain ⟨a, rfl, ha⟩ := rx
    cases ro
    split at hp
    · rename_i ks xs ex
      cases hk : keyOf y with
      | none => rw [hk] at hp; cases hp
      | some k =>
        rw [hk] at hp
        simp only [Option.bind_some] at hp
        split at hp
        · rename_i hl
          cases hp
          obtain ⟨kvs, h1, h2, ⟨h3, h3'⟩, h4⟩ := w.ob m _ a ex ha
          obtain ⟨ek, lk⟩ := key_sd ry hk
          have e2 : Ext ρ H ρ (upd H a (.dK (putK kvs (tk k) v))) := Ext.write (List.mem_of_getElem? ha) (fun _ z => by rw [h1] at z; cases z) (fun _ _ z => by rw [h1] at z; cases z)
          have hkl : kvs.length < sizeLine := by
            have := h4.length
            rw [List.length_map] at this
            rw [← this]; exact hl
          refine d_setItem (by omega) I (.inl ⟨kvs, tk k, h1, ek, hkl, rfl⟩) ri rv fun s4 I4 => ⟨_, I4, q _ e2 (w.write ha e2 ?_)⟩
          obtain ⟨k1, k2⟩ := put_sd (k := k) rz h3 h4
          exact ⟨_, upd_same, Nat.le_trans (putD_len _ _ _ _) hl, ⟨k1, putD_ks h3' lk⟩, k2.ext e2⟩
        · cases hp
    · rename_i xs ex
      split at hp
      · rename_i i'
        cases hj : ixN xs.length i' with
        | none => rw [hj] at hp; cases hp
        | some j =>
          rw [hj] at hp
          cases hp
          obtain ⟨vs, h1, h2, h3⟩ := w.ob m _ a ex ha
          simp only [Rel] at ry
          subst ry
          have e2 : Ext ρ H ρ (upd H a (.lst (vs.set j v))) := Ext.write (List.mem_of_getElem? ha) (fun _ z => by rw [h1] at z; cases z) (fun _ _ z => by rw [h1] at z; cases z)
          refine set_list pins s σ H (.ref a) (.int i') v (.ref a) iv u Q I rfl ri rv ⟨a, vs, i', j, rfl, rfl, h1, by rw [← h3.length]; exact hj, q _ e2 (w.write ha e2 ?_)⟩
          exact ⟨_, upd_same, by rw [List.length_set]; exact h2, (h3.set j rz).ext e2⟩
      · cases hp
    · cases hp
  · cases hp
/-- PS-level locking behind a statement -/
def ShS (nx : St → Hp → Prop) : St → Hp → Prop := fun σ H => nx σ H ∨ ∃ d u, H d = some u ∧ Mut (some u) ∧ ∀ od, nx σ (upd H d (.frz od u))
theorem PS.sh {st : Stmt} {t : TS} (h : PS X st t) : PS X st (fun D σ H => t { D with nx := ShS D.nx } σ H) := ⟨fun pins s σ H D I q => thn (h.run pins s σ H _ I q) fun f s' z => by
  cases f with
  | next =>
    obtain ⟨σ', H', I', q'⟩ := z
    rcases q' with q' | ⟨d, u, hd, mu, q'⟩
    · exact ⟨σ', H', I', q'⟩
    · obtain ⟨od, I2⟩ := I'.lock hd mu
      exact ⟨σ', _, I2, q' od⟩
  | brk => exact z
  | cont => exact z
  | ret v => exact z⟩
end
end Mi
namespace Mi
open PySem L2

section
variable {g : Gd} {p : Prg} {n : Nat} {c : CC} {W : WX} {X : Cx}
noncomputable abbrev itp (p : Prg) (n : Nat) : Itp := ⟨callN p n, p.gs⟩
theorem ps_no {s : Stmt} {F : Env → Store → Fl} (h : ∀ η st, F η st = .no) : PS X s (STS g W F) := ⟨fun pins s σ H D I q => by
  obtain ⟨ρ, st, η, w, sl, q⟩ := q
  rw [h] at q
  exact (show False from q).elim⟩
theorem pss_no {s : List Stmt} {F : Env → Store → Fl} (h : ∀ η st, F η st = .no) : PSs X s (STS g W F) := ⟨fun pins s σ H D I q => by
  obtain ⟨ρ, st, η, w, sl, q⟩ := q
  rw [h] at q
  exact (show False from q).elim⟩
theorem s_asg (S : CxS g p n c W X) {i : Nat} {e : Ex} {x : Str} {px pos : Pos} {v : Expr} (h : ck1 p (.asg i e) c (.Assign [.Name x px] v pos) = true) : PS X (.Assign [.Name x px] v pos) (STS g W (exec (itp p n) (.asg i e))) := by
  have hs := snd e c W X S
  have h : (decide (c.N[i]? = some x) && tgB c x && noDbg x && (chk p e c).v v && noComp2 v) = true := h
  simp only [Bool.and_eq_true, decide_eq_true_eq] at h
  obtain ⟨⟨⟨⟨h1, h2⟩, h3⟩, h4⟩, h5⟩ := h
  obtain ⟨k1, k2⟩ := S.tg h2
  have nd : X.N.Nodup := by rw [S.N]; exact S.nd
  have hi : X.N[i]? = some x := by rw [S.N]; exact h1
  have rd : ∀ D σ H, STS g W (exec (itp p n) (.asg i e)) D σ H → SE g W (evA (itp p n) e).v σ H fun V H1 => D.nx (σ.set i (some V)) H1 := by
    rintro D σ H ⟨ρ, st, η, w, sl, q⟩
    exact ⟨ρ, st, η, w, sl, (PostS.fl sl q).imp fun v ρ1 st1 H1 e1 w1 q1 V rv => q1 ρ1 H1 _ Ext.refl w1 ((sl.ext e1).set i rv)⟩
  by_cases hn : noComp v = true
  · exact PS.imp (ps_set (i := i) nd hi k1 (hs.v v h4) (sw_none hn) k2) rd
  · cases v <;> first | exact absurd rfl hn | exact (nomatch (show false = true from h5)) | skip
    rename_i elt gens scope vpos
    by_cases hw : swB c x px (.ListComp elt gens scope vpos) = true
    · simp only [swB, Bool.and_eq_true, beq_iff_eq, Bool.not_eq_true'] at hw
      obtain ⟨⟨w1, w2⟩, w3⟩ := hw
      have hl : c.sc.names.lookup x = some .local := by
        unfold kindIn at w1
        split at w1
        · assumption
        · cases w1
      have hsw : swapsWith (.ListComp elt gens scope vpos) (some (.Name x px)) pos.line X.env = pure true :=
        sw_true (by rw [S.sc]; exact S.fk) (by rw [S.sc]; exact hl) (by simpa using w2) w3
      cases e with
      | lc vs tg it t el =>
        simp only [chk, ckV] at h4
        split at h4
        · rename_i elt tgt iter ifs scope pos' ee
          injection ee with e1 e2 e3 e4
          subst e1 e2 e3 e4
          simp only [Bool.and_eq_true] at h4
          obtain ⟨⟨⟨⟨⟨⟨a1, a2⟩, a3⟩, a4⟩, a5⟩, a6⟩, a7⟩ := h4
          have L : LcP p c vs tg it t el elt tgt iter ifs scope := ⟨a1, a2, a3, a4, a5, a6, a7⟩
          have hb : ∀ (c' : CC) (X' : Cx), CxS g p n c' W0 X' → Snd g p n c' W0 X' t ∧ Snd g p n c' W0 X' el := fun c' X' S' => ⟨snd t c' W0 X' S', snd el c' W0 X' S'⟩
          obtain ⟨tt, b1, b2⟩ := lc_tests S L hb
          obtain ⟨d1, d2, d3, d4, d5⟩ := lc_rd false S L (snd it c W X S) hb b2
          refine PS.imp (PS.sh (ps_setLc (i := i) S.calm nd hi (by rw [S.sc]; exact hl) hsw d1 d2 d3 b1 d4 (noFold a1))) fun D σ H q => ?_
          have := d5 σ H _ (rd D σ H q)
          exact this
        · cases h4
      | lcn vs tg it t el =>
        simp only [chk, ckV] at h4
        split at h4
        · rename_i elt tgt iter ifs scope pos' ee
          injection ee with e1 e2 e3 e4
          subst e1 e2 e3 e4
          simp only [Bool.and_eq_true] at h4
          obtain ⟨⟨⟨⟨⟨⟨a1, a2⟩, a3⟩, a4⟩, a5⟩, a6⟩, a7⟩ := h4
          have L : LcP p c vs tg it t el elt tgt iter ifs scope := ⟨a1, a2, a3, a4, a5, a6, a7⟩
          have hb : ∀ (c' : CC) (X' : Cx), CxS g p n c' W0 X' → Snd g p n c' W0 X' t ∧ Snd g p n c' W0 X' el := fun c' X' S' => ⟨snd t c' W0 X' S', snd el c' W0 X' S'⟩
          obtain ⟨tt, b1, b2⟩ := lc_tests S L hb
          obtain ⟨d1, d2, d3, d4, d5⟩ := lc_rd true S L (snd it c W X S) hb b2
          refine PS.imp (PS.sh (ps_setLc (i := i) S.calm nd hi (by rw [S.sc]; exact hl) hsw d1 d2 d3 b1 d4 (noFold a1))) fun D σ H q => ?_
          have := d5 σ H _ (rd D σ H q)
          exact this
        · cases h4
      | bad => exact ps_no fun _ _ => rfl
      | fn f as => cases f <;> exact (nomatch (show false = true from h4))
      | _ => exact (nomatch (show false = true from h4))
    · have hsw : swapsWith (.ListComp elt gens scope vpos) (some (.Name x px)) pos.line X.env = pure false := by
        unfold swapsWith
        have e2 : X.env.kindOf x = c.sc.names.lookup x := by
          show X.env.scope.names.lookup x = _
          rw [S.sc]
        have hz : (X.env.blockKind == .function && X.env.kindOf x == some .local && px.line == (Expr.ListComp elt gens scope vpos).pos.line && !(scope.names.any fun (n, k) => n == x && (k == .local || k == .cell))) = false := by
          cases hz : (X.env.blockKind == .function && X.env.kindOf x == some .local && px.line == (Expr.ListComp elt gens scope vpos).pos.line && !(scope.names.any fun (n, k) => n == x && (k == .local || k == .cell))) with
          | false => rfl
          | true =>
            exfalso
            apply hw
            simp only [Bool.and_eq_true] at hz
            obtain ⟨⟨⟨z1, z2⟩, z3⟩, z4⟩ := hz
            unfold swB kindIn
            rw [e2] at z2
            have z2' : c.sc.names.lookup x = some .local := by simpa using z2
            simp only [z2', Bool.and_eq_true]
            exact ⟨⟨trivial, z3⟩, z4⟩
        simp only [hz]
      exact PS.imp (ps_set (i := i) nd hi k1 (hs.v _ h4) hsw k2) rd
theorem s_for (S : CxS g p n c W X) {tg : Tg} {it : Ex} {body : Sm} {t x : Expr} {ss : List Stmt} {pos : Pos} (h1 : noSet x = true) (h2 : tgOk c tg t = true) (h3 : (chk p it c).i x = true) (hb : PSs X ss (STS g W (exec (itp p n) body))) :
    PS X (.For t x ss [] pos) (STS g W (exec (itp p n) (.for_ tg it body))) := by
  refine PS.imp (ps_for S.po S.calm ((snd it c W X S).i t x h3) (tg_rd S h2) hb (noFold h1)) ?_
  rintro D σ H ⟨ρ, st, η, w, sl, q⟩
  have ck0 : ∀ {ck : Store → Bool} {xs : List Val} {η : Env} {st : Store} {ρ : List Addr} {H : Hp}, PostS g W ρ H (forLoop ck tg (exec (itp p n) body) xs η st) D → ck st = true := fun {ck xs η st ρ H} q => by
    cases hk : ck st with
    | true => rfl
    | false => cases xs <;> (simp only [forLoop, hk] at q; exact (show False from q).elim)
  refine ⟨ρ, st, η, w, sl, (PostS.fl sl q).imp fun r ρ1 st1 H1 e1 w1 q1 => ⟨ck0 q1, fun J wk => ?_⟩⟩
  refine ⟨fun i m σc Hc => ∃ ρc stc ηc, m = r.1.length - i ∧ i ≤ r.1.length ∧ Ext ρ1 H1 ρc Hc ∧ Wd g ρc stc Hc ∧ Slots g ρc Hc ηc σc ∧ PostS g W ρc Hc (forLoop (ckOf r.2 r.1) tg (exec (itp p n) body) (r.1.drop i) ηc stc) D, ?_, ?_⟩
  · exact ⟨r.1.length, ρ1, st1, η, by simp, Nat.zero_le _, Ext.refl, w1, sl.ext e1, q1⟩
  · rintro i m σc Hc ⟨ρc, stc, ηc, rfl, hi, ec, wc, sc, qc⟩
    by_cases hlt : i < r.1.length
    · rw [List.drop_eq_getElem_cons hlt] at qc
      have ck := ck0 qc
      simp only [forLoop, ck, if_true] at qc
      obtain ⟨wk1, _⟩ := wk ρc stc Hc ec wc ck
      obtain ⟨go, yl⟩ := wk1 i r.1[i] (List.getElem?_eq_getElem hlt)
      refine .inr ⟨go, fun σ' H' => ∃ ρ' st' η', i + 1 ≤ r.1.length ∧ Ext ρ1 H1 ρ' H' ∧ Wd g ρ' st' H' ∧ Slots g ρ' H' η' σ' ∧ PostS g W ρ' H' (forLoop (ckOf r.2 r.1) tg (exec (itp p n) body) (r.1.drop (i + 1)) η' st') D,
        fun σ' H' ⟨ρ', st', η', a1, a2⟩ => ⟨r.1.length - (i + 1), by omega, ρ', st', η', rfl, a1, a2⟩, fun V H' y => ?_⟩
      obtain ⟨rfl, rv⟩ := yl V H' y
      cases ha : asgTg tg r.1[i] ηc with
      | none => rw [ha] at qc; exact (show False from qc).elim
      | some η1 =>
        rw [ha] at qc
        dsimp only at qc
        refine ⟨ρc, stc, ηc, r.1[i], wc, sc, rv, η1, ha, fun σ2 s2 _ _ => ⟨ρc, stc, η1, wc, s2, ?_⟩⟩
        cases hB : exec (itp p n) body η1 stc with
        | nx η2 st2 =>
          rw [hB] at qc
          exact fun ρ' H2 σ' e' w' s' => ⟨ρ', st2, η2, hlt, ec.trans e', w', s', PostS.mono qc e'⟩
        | ct η2 st2 =>
          rw [hB] at qc
          exact fun ρ' H2 σ' e' w' s' => ⟨ρ', st2, η2, hlt, ec.trans e', w', s', PostS.mono qc e'⟩
        | bk η2 st2 => rw [hB] at qc; exact qc
        | rt v st2 => rw [hB] at qc; exact qc
        | xc x η2 st2 => rw [hB] at qc; exact qc
        | no => rw [hB] at qc; exact (show False from qc).elim
    · have hn : i = r.1.length := by omega
      subst hn
      rw [List.drop_length] at qc
      have ck := ck0 qc
      simp only [forLoop, ck, if_true] at qc
      obtain ⟨_, stop⟩ := wk ρc stc Hc ec wc ck
      exact .inl ⟨stop _ (Nat.le_refl _), qc ρc Hc σc Ext.refl wc sc⟩
mutual
theorem snd1 : ∀ (sm : Sm) (c : CC) (W : WX) (X : Cx), CxS g p n c W X → ∀ s, ck1 p sm c s = true → PS X s (STS g W (exec (itp p n) sm))
  | .bad, c, W, X, S, s, h => ps_no fun _ _ => rfl
  | .skip, c, W, X, S, s, h => by
    simp only [ck1] at h
    split at h
    · refine PS.imp ps_pass ?_
      rintro D σ H ⟨ρ, st, η, w, sl, q⟩
      exact q ρ H σ Ext.refl w sl
    · cases h
  | .seq a b, c, W, X, S, s, h => (nomatch (show false = true from h))
  | .frz i, c, W, X, S, s, h => (nomatch (show false = true from h))
  | .asg i e, c, W, X, S, s, h => by
    have hh := h
    simp only [ck1] at hh
    split at hh
    · exact s_asg S h
    · cases hh
  | .asgT tg e, c, W, X, S, s, h => by
    simp only [ck1] at h
    split at h
    · rename_i t v pos
      simp only [Bool.and_eq_true] at h
      obtain ⟨⟨⟨⟨h1, h2⟩, h3⟩, h4⟩, h5⟩ := h
      have hs := snd e c W X S
      refine PS.imp (ps_asg (hs.v v h5) (tg_rd S h1) (sw_none h2) (ss_none h3) (by cases t <;> first | rfl | cases h4)) ?_
      rintro D σ H ⟨ρ, st, η, w, sl, q⟩
      refine ⟨ρ, st, η, w, sl, (PostS.fl sl q).imp fun v ρ1 st1 H1 e1 w1 q1 V rv => ?_⟩
      cases ha : asgTg tg v η with
      | none => rw [ha] at q1; exact (show False from q1).elim
      | some η1 =>
        rw [ha] at q1
        exact ⟨ρ1, st1, η, v, w1, sl.ext e1, rv, η1, ha, fun σ' s' _ _ => q1 ρ1 H1 σ' Ext.refl w1 s'⟩
    · cases h
  | .put o k e, c, W, X, S, s, h => by
    simp only [ck1] at h
    split at h
    · rename_i x y p2 v pos
      simp only [Bool.and_eq_true] at h
      obtain ⟨⟨⟨h1, h3⟩, h4⟩, h5⟩ := h
      refine PS.imp (ps_asg ((snd e c W X S).v v h5) (pg_sub ((snd o c W X S).v x h3) ((snd k c W X S).v y h4) (put_all S.K S.units) ?_) (show swapsWith v (some (.Subscript x y p2)) pos.line X.env = pure false by cases v <;> rfl) ?_ (by rfl)) ?_
      · cases y <;> first | (intro _; rfl) | cases h1
      · cases v <;> rfl
      · rintro D σ H ⟨ρ, st, η, w, sl, q⟩
        refine ⟨ρ, st, η, w, sl, (PostS.fl sl q).imp fun v ρ1 st1 H1 e1 w1 q1 V rv => ?_⟩
        refine ⟨ρ1, st1, η, w1, sl.ext e1, (PostS.fl (sl.ext e1) q1).imp fun o ρ2 st2 H2 e2 w2 q2 O ro => ?_⟩
        refine ⟨ρ2, st2, η, w2, (sl.ext e1).ext e2, (PostS.fl ((sl.ext e1).ext e2) q2).imp fun k ρ3 st3 H3 e3 w3 q3 K rk => ?_⟩
        cases hp : putV o k v st3 with
        | none => rw [hp] at q3; exact (show False from q3).elim
        | some st4 =>
          rw [hp] at q3
          exact ⟨ρ3, st3, o, k, v, st4, w3, ro.ext e3, rk, (rv.ext e2).ext e3, hp, fun H4 e4 w4 => q3 ρ3 H4 σ e4 w4 ((((sl.ext e1).ext e2).ext e3).ext e4)⟩
    · cases h
  | .expr e, c, W, X, S, s, h => by
    simp only [ck1] at h
    split at h
    · rename_i v pos
      simp only [Bool.and_eq_true] at h
      refine PS.imp (ps_expr ((snd e c W X S).v v h.2) (sw_none h.1)) ?_
      rintro D σ H ⟨ρ, st, η, w, sl, q⟩
      exact ⟨ρ, st, η, w, sl, (PostS.fl sl q).imp fun v ρ1 st1 H1 e1 w1 q1 V rv => q1 ρ1 H1 σ Ext.refl w1 (sl.ext e1)⟩
    · cases h
  | .ret e, c, W, X, S, s, h => by
    simp only [ck1] at h
    split at h
    · rename_i v pos
      refine PS.imp (ps_ret ((snd e c W X S).v v h)) ?_
      rintro D σ H ⟨ρ, st, η, w, sl, q⟩
      exact ⟨ρ, st, η, w, sl, (PostS.fl sl q).imp fun v ρ1 st1 H1 e1 w1 q1 V rv => q1 ρ1 H1 V Ext.refl w1 rv⟩
    · cases h
  | .retN, c, W, X, S, s, h => by
    simp only [ck1] at h
    split at h
    · refine PS.imp ps_retN ?_
      rintro D σ H ⟨ρ, st, η, w, sl, q⟩
      exact q ρ H .non Ext.refl w rel_non
    · cases h
  | .ite t a b, c, W, X, S, s, h => by
    simp only [ck1] at h
    split at h
    · rename_i x ss1 ss2 pos
      simp only [Bool.and_eq_true] at h
      refine PS.imp (ps_if ((snd t c W X S).t x h.1.1) (sndB a c W X S ss1 h.1.2) (sndB b c W X S ss2 h.2)) ?_
      rintro D σ H ⟨ρ, st, η, w, sl, q⟩
      refine ⟨ρ, st, η, w, sl, (PostS.fl sl q).imp fun k ρ1 st1 H1 e1 w1 q1 => ?_⟩
      cases k with
      | true => rw [if_pos rfl]; exact ⟨ρ1, st1, η, w1, sl.ext e1, q1⟩
      | false => rw [if_neg (by decide)]; exact ⟨ρ1, st1, η, w1, sl.ext e1, q1⟩
    · cases h
  | .for_ tg it body, c, W, X, S, s, h => by
    simp only [ck1] at h
    split at h
    · rename_i t x ss pos
      simp only [Bool.and_eq_true] at h
      obtain ⟨⟨⟨h1, h2⟩, h3⟩, h4⟩ := h
      exact s_for S h1 h2 h3 (sndB body c W X S ss h4)
    · cases h
  | .brk, c, W, X, S, s, h => by
    simp only [ck1] at h
    split at h
    · refine PS.imp ps_break ?_
      rintro D σ H ⟨ρ, st, η, w, sl, q⟩
      exact q ρ H σ Ext.refl w sl
    · cases h
  | .cont, c, W, X, S, s, h => by
    simp only [ck1] at h
    split at h
    · refine PS.imp ps_continue ?_
      rintro D σ H ⟨ρ, st, η, w, sl, q⟩
      exact q ρ H σ Ext.refl w sl
    · cases h
theorem sndB : ∀ (sm : Sm) (c : CC) (W : WX) (X : Cx), CxS g p n c W X → ∀ ss, ckB p sm c ss = true → PSs X ss (STS g W (exec (itp p n) sm))
  | .bad, c, W, X, S, ss, h => pss_no fun _ _ => rfl
  | .skip, c, W, X, S, ss, h => by
    simp only [ckB, List.isEmpty_iff] at h
    subst h
    refine PSs.imp pss_nil ?_
    rintro D σ H ⟨ρ, st, η, w, sl, q⟩
    exact q ρ H σ Ext.refl w sl
  | .seq a b, c, W, X, S, ss, h => by
    simp only [ckB] at h
    cases hf : isFrz a with
    | true =>
      rw [hf] at h
      cases a <;> first | exact (nomatch (show false = true from hf)) | skip
      rename_i i
      have hb := sndB b c W X S ss h
      refine ⟨fun pins s σ H D I q => ?_⟩
      obtain ⟨ρ, st, η, w, sl, q⟩ := q
      simp only [exec] at q
      cases he : η[i]? with
      | none => rw [he] at q; exact (show False from q).elim
      | some o =>
        rw [he] at q
        cases o with
        | none => exact (show False from q).elim
        | some v =>
          dsimp only at q
          cases hz : frzV 1000 v st with
          | none => rw [hz] at q; exact (show False from q).elim
          | some r =>
            rw [hz] at q
            obtain ⟨V, hV, rv⟩ := sl.2 i v he
            obtain ⟨H2, I2, e2, w2, r2⟩ := frzV_sd 1000 v V st H r I w rv hz
            exact hb.run pins s σ H2 D I2 ⟨ρ, r.2, η.set i (some r.1), w2, (sl.ext e2).same hV r2, PostS.mono q e2⟩
    | false =>
      rw [hf] at h
      cases ss with
      | nil => cases h
      | cons s ss =>
        dsimp only at h
        simp only [Bool.and_eq_true] at h
        refine PSs.imp (pss_cons (snd1 a c W X S s h.1) (sndB b c W X S ss h.2)) ?_
        rintro D σ H ⟨ρ, st, η, w, sl, q⟩
        refine ⟨ρ, st, η, w, sl, ?_⟩
        simp only [exec] at q
        cases ha : exec (itp p n) a η st with
        | nx η2 st2 =>
          rw [ha] at q
          exact fun ρ' H' σ' e' w' s' => ⟨ρ', st2, η2, w', s', PostS.mono q e'⟩
        | ct η2 st2 => rw [ha] at q; exact q
        | bk η2 st2 => rw [ha] at q; exact q
        | rt v st2 => rw [ha] at q; exact q
        | xc x η2 st2 => rw [ha] at q; exact q
        | no => rw [ha] at q; exact (show False from q).elim
  | .asg _ _, c, W, X, S, ss, h => (nomatch (show false = true from h))
  | .asgT _ _, c, W, X, S, ss, h => (nomatch (show false = true from h))
  | .put _ _ _, c, W, X, S, ss, h => (nomatch (show false = true from h))
  | .expr _, c, W, X, S, ss, h => (nomatch (show false = true from h))
  | .frz _, c, W, X, S, ss, h => (nomatch (show false = true from h))
  | .ret _, c, W, X, S, ss, h => (nomatch (show false = true from h))
  | .retN, c, W, X, S, ss, h => (nomatch (show false = true from h))
  | .ite _ _ _, c, W, X, S, ss, h => (nomatch (show false = true from h))
  | .for_ _ _ _, c, W, X, S, ss, h => (nomatch (show false = true from h))
  | .brk, c, W, X, S, ss, h => (nomatch (show false = true from h))
  | .cont, c, W, X, S, ss, h => (nomatch (show false = true from h))
end
end
end Mi
namespace Mi
open PySem L2 PySem.Spec PyProof.Rows

section
variable {P : Program} {w : World} {mg : Str → Option Value} {base : Heap} {g : Gd} {p : Prg}
/-- a def of the row and its compact text -/
def lamN (d : Def) : Str := (tx d.name ++ (".<locals>." : Str)) ++ ("<lambda>" : Str)
structure FnIn (cs : List (Addr × Addr)) (g : Gd) (mg : Str → Option Value) (p : Prg) (d : Def) (fa : Addr) (fd : FuncData) (args : Arguments) (body : List Stmt) (scope : Scope) : Prop where
  fn : FunD g.K (tx d.name) (tx d.name) args body scope [] [] fa fd
  mg : mg (tx d.name) = some (.ref fa)
  bd : Binds g.K fd (d.ps.map tx) []
  sc : FnScope (d.ns.map tx) (d.ps.map tx) scope
  ck : ckB p d.body ⟨d.ns.map tx, scope, fun _ => true, d.lam⟩ body = true
  lm : d.lam = true → ∃ cA P, fd.code = .ref cA ∧ (cA, P) ∈ cs ∧ (P, lamN d) ∈ g.tb ∧ ∀ q ∈ g.tb, q.1 = P → q.2 = lamN d
structure Prgs (cs : List (Addr × Addr)) (g : Gd) (mg : Str → Option Value) (p : Prg) : Prop where
  fns : ∀ (f : Nat) (d : Def), p.fns[f]? = some d → ∃ fa fd args body scope, FnIn cs g mg p d fa fd args body scope
  bl : ∀ x ∈ bnames, mg (x : Str) = none
  gs : ∀ (i : Nat) (q : Txt × Val), p.gs[i]? = some q → ∃ u V, mg (tx q.1) = some u ∧ RelV V u ∧ ∀ ρ H, Rel g ρ H q.2 V
theorem start_slots {ρ : List Addr} {H : Hp} {as : List Val} {vs : List V} {N : List Str} {k : Nat} (r : Rels g ρ H as vs) (hk : N.length = k) : Slots g ρ H (as.map some ++ List.replicate (k - as.length) none) (L2.start N vs) := by
  unfold L2.start
  have hl := r.length
  refine ⟨by simp [hk, hl], fun i v h => ?_⟩
  by_cases hi : i < as.length
  · rw [List.getElem?_append_left (by simpa using hi), List.getElem?_map] at h
    cases q : as[i]? with
    | none => rw [q] at h; cases h
    | some x =>
      rw [q] at h
      cases h
      obtain ⟨V, hV, rv⟩ := r.get q
      refine ⟨V, ?_, rv⟩
      rw [List.getElem?_append_left (by rw [List.length_map]; omega), List.getElem?_map, hV]; rfl
  · rw [List.getElem?_append_right (by simpa using hi)] at h
    rw [List.getElem?_replicate] at h
    split at h <;> cases h
theorem body_of {n f : Nat} {d : Def} {E : XK} (hd : p.fns[f]? = some d) {vs : List V} {H : Hp} {Q : VK} (h : spF g p (n + 1) f vs H Q E) :
    STS g (fun cls dd _ H => E cls dd H) (exec (itp p n) d.body) { nx := fun _ H' => Q .non H', rt := Q } (L2.start (d.ns.map tx) vs) H := by
  obtain ⟨ρ, st, as, w1, r, ⟨d', hd', hl⟩, q⟩ := h
  rw [hd] at hd'
  cases hd'
  refine ⟨ρ, st, as.map some ++ List.replicate (d.ns.length - as.length) none, w1, start_slots r (by simp), ?_⟩
  simp only [callN_succ, hd] at q
  obtain ⟨_, q⟩ := if_ok q
  show PostS _ _ _ _ (exec ⟨callN p n, p.gs⟩ d.body _ _) _
  cases hx : exec ⟨callN p n, p.gs⟩ d.body (as.map some ++ List.replicate (d.ns.length - as.length) none) st with
  | nx η st2 => rw [hx] at q; exact fun ρ' H' σ' e' w' s' => q ρ' H' e' w' _ rel_non
  | rt v st2 => rw [hx] at q; exact fun ρ' H' V e' w' rv => q ρ' H' e' w' V rv
  | xc x η st2 => rw [hx] at q; exact fun ρ' H' σ' cls dd e' w' s' xr => q ρ' H' cls dd e' w' xr
  | bk η st2 => rw [hx] at q; exact (show False from q).elim
  | ct η st2 => rw [hx] at q; exact (show False from q).elim
  | no => rw [hx] at q; exact (show False from q).elim
theorem sp_len {n f : Nat} {d : Def} {E : XK} (hd : p.fns[f]? = some d) {vs : List V} {H : Hp} {Q : VK} (h : spF g p n f vs H Q E) : vs.length = (d.ps.map tx).length := by
  obtain ⟨ρ, st, as, w1, r, ⟨d', hd', hl⟩, q⟩ := h
  rw [hd] at hd'
  cases hd'
  rw [← r.length, hl, List.length_map]
theorem cx_of {cs : List (Addr × Addr)} (hTB : ∀ q ∈ cs, LamX.TabB base mg q.1 q.2) (S : Prgs cs g mg p) {n : Nat} {d : Def} {fa : Addr} {args : Arguments} {body : List Stmt} {scope : Scope} {dV kV doc pm ct cdv : Value} {an : Option Addr}
    (F : FnIn cs g mg p d fa (PySem.W.fnOf (tx d.name) (tx d.name) args body scope dV kV doc pm an cdv ct) args body scope)
    (ih : ∀ f d, p.fns[f]? = some d → ∀ fa fd args body scope, FnIn cs g mg p d fa fd args body scope → FnOk P w g.K mg base (L2.CX P w) n fa fd (d.ps.map tx) (spF g p n f))
    {A : Around} {outer : List PySem.Env} {s : Shared} {H : Hp} {E : XK} (hr : Room n (A.deeper (envOfC (tx d.name) scope s.heap.objs.size fa cdv))) :
    CxS g p n ⟨d.ns.map tx, scope, fun _ => true, d.lam⟩ (fun cls dd _ H => E cls dd H) (cxOf (L2.CX P w) P w g.K mg base (d.ns.map tx) (tx d.name) scope fa cdv A outer s H E) := {
  K := rfl
  N := rfl
  nd := F.sc.nd
  sc := rfl
  fk := F.sc.kind
  fn := fun _ _ => rfl
  calm := rfl
  room := hr
  tk := takes_of rfl rfl rfl rfl
  po := passes_of rfl
  bl := S.bl
  lam := fun h => by
    obtain ⟨cA, P, e, m1, m2, m3⟩ := F.lm h
    exact ⟨cA, P, e, hTB _ m1, m2, m3⟩
  gs := S.gs
  fns := fun f' d' hd' => by
    obtain ⟨fa', fd', ar', b', sc', F'⟩ := S.fns f' d' hd'
    exact ⟨fa', fd', ih f' d' hd' fa' fd' ar' b' sc' F', F'.mg, F'.fn.kp, F'.bd⟩ }
theorem fn_all {cs : List (Addr × Addr)} (hTB : ∀ q ∈ cs, LamX.TabB base mg q.1 q.2) (S : Prgs cs g mg p) : ∀ (n f : Nat) (d : Def), p.fns[f]? = some d → ∀ fa fd args body scope, FnIn cs g mg p d fa fd args body scope → FnOk P w g.K mg base (L2.CX P w) n fa fd (d.ps.map tx) (spF g p n f)
  | 0, f, d, hd, fa, fd, args, body, scope, F => by
    refine ⟨fun vs H Q E h => ?_, fun A outer s H ar us vs Q E hr he hb hv h => ?_⟩
    · obtain ⟨_, _, _, _, _, _, q⟩ := h; rw [callN_zero] at q; exact (show False from q).elim
    · obtain ⟨_, _, _, _, _, _, q⟩ := h; rw [callN_zero] at q; exact (show False from q).elim
  | n + 1, f, d, hd, fa, fd, args, body, scope, F => by
    have ih := fn_all hTB S n
    obtain ⟨oc, od, dV, kV, doc, pm, an, cdv, ct, osl, efd, lk, hcd, _, _⟩ := F.fn.ex
    subst efd
    exact fn_of lk hcd F.sc (fun vs H Q E h => sp_len hd h) fun A outer s H vs Q E hr h => ⟨_, sndB d.body _ _ _ (cx_of hTB S F ih hr) body F.ck, body_of hd h⟩
/-- a list may be locked ahead -/
def lockS (t : TS) : TS := fun D σ H => t D σ H ∨ ∃ a vs, H a = some (.lst vs) ∧ ∀ od, t D σ (upd H a (.frz od (.lst vs)))
theorem PSs.lock {X : Cx} {b : List Stmt} {t : TS} (h : PSs X b t) : PSs X b (lockS t) := ⟨fun pins s σ H D I q => by
  rcases q with q | ⟨a, vs, ha, q⟩
  · exact h.run pins s σ H D I q
  · obtain ⟨od, I2⟩ := I.lock ha trivial
    exact h.run pins s σ _ D I2 (q od)⟩
def spL (g : Gd) (p : Prg) (n f : Nat) : Sp := fun vs H Q E => spF g p n f vs H Q E ∨ ∃ a us, H a = some (.lst us) ∧ ∀ od, spF g p n f vs (upd H a (.frz od (.lst us))) Q E
theorem fn_law {cs : List (Addr × Addr)} (hTB : ∀ q ∈ cs, LamX.TabB base mg q.1 q.2) (S : Prgs cs g mg p) {n f : Nat} {d : Def} (hd : p.fns[f]? = some d) {fa : Addr} {fd : FuncData} {args : Arguments} {body : List Stmt} {scope : Scope} (F : FnIn cs g mg p d fa fd args body scope) :
    FnOk P w g.K mg base (L2.CX P w) (n + 1) fa fd (d.ps.map tx) (spL g p (n + 1) f) := by
  have ih := fn_all (P := P) (w := w) hTB S n
  obtain ⟨oc, od, dV, kV, doc, pm, an, cdv, ct, osl, efd, lk, hcd, _, _⟩ := F.fn.ex
  subst efd
  refine fn_of lk hcd F.sc (fun vs H Q E h => ?_) fun A outer s H vs Q E hr h => ⟨_, PSs.lock (sndB d.body _ _ _ (cx_of hTB S F ih hr) body F.ck), ?_⟩
  · rcases h with h | ⟨a, us, ha, h⟩
    · exact sp_len hd h
    · exact sp_len hd (h ⟨.none, none, .plain, #[]⟩)
  · rcases h with h | ⟨a, us, ha, h⟩
    · exact .inl (body_of hd h)
    · exact .inr ⟨a, us, ha, fun od => body_of hd (h od)⟩
end
end Mi
namespace Mi
open PySem L2 PySem.Spec PyProof.Rows

/-! a law's end -/
structure Src where
  d : Def
  st : Stmt
def Src.dd (s : Src) : He.DefD := ⟨(tx s.d.name, none), tx s.d.name, tx s.d.name, defArgs s.st, defBody s.st, defScope s.st, [], []⟩
def scB (N P : List Str) (sc : Scope) : Bool := decide (sc.kind = .function) && (decide (sc.isCoroutine = false) && (decide (sc.isGenerator = false) && (decide N.Nodup && (decide (N.take P.length = P)
  && (decide (∀ x ∈ P, sc.names.lookup x = some .local ∨ sc.names.lookup x = some .cell) && decide (∀ y ∈ sc.names, y.2 ≠ .free))))))
def Src.okB (p : Prg) (s : Src) : Bool := scB (s.d.ns.map tx) (s.d.ps.map tx) (defScope s.st) && ckB p s.d.body ⟨s.d.ns.map tx, defScope s.st, fun _ => true, s.d.lam⟩ (defBody s.st)
def Src.bd (s : Src) : Prop := ∀ (kV doc pm : Value) (an : Option Addr) (cdv ct : Value) (us : List Value), us.length = (s.d.ps.map tx).length →
  bindArgs (PySem.W.fnOf (tx s.d.name) (tx s.d.name) (defArgs s.st) (defBody s.st) (defScope s.st) .none kV doc pm an cdv ct) ⟨us, []⟩ = pure ((s.d.ps.map tx).zip us)
def BdAll : List Src → Prop
  | [] => True
  | s :: r => s.bd ∧ BdAll r
theorem BdAll.all : ∀ {ss : List Src}, BdAll ss → ∀ s ∈ ss, s.bd
  | [], _, _, h => by cases h
  | s :: r, h, z, m => by
    rcases List.mem_cons.mp m with rfl | m
    · exact h.1
    · exact BdAll.all h.2 z m
def faOf (ss : List Src) : List He.Fa := (ss.map fun s => He.Fa.glo (tx s.d.name)) ++ bnames.map fun (x : String) => He.Fa.free (x : Str)
theorem scB_ok {N P : List Str} {sc : Scope} (h : scB N P sc = true) : FnScope N P sc := by
  simp only [scB, Bool.and_eq_true, decide_eq_true_eq] at h
  obtain ⟨h1, h2, h3, h4, h5, h6, h7⟩ := h
  exact ⟨h1, h2, h3, h4, h5, h6, h7⟩
theorem fact_mem {fa : List He.Fa} {fn : List He.DefD} {K : PySem.W.Frag} (c : He.SaysD fa fn K) {f : He.Fa} (h : f ∈ fa) : f.ok K = true := by
  obtain ⟨i, hi⟩ := List.getElem?_of_mem h
  exact c.fact i hi

section
variable {ss : List Src} {p : Prg} {more : List He.Fa} {K : PySem.W.Frag} {h : Heap} {mg : Str → Option Value}
def LmOk (K : PySem.W.Frag) (tb : List (Addr × Str)) (cs : List (Addr × Addr)) (ss : List Src) : Prop := ∀ s ∈ ss, s.d.lam = true → He.cT K (tx s.d.name, none) ∈ cs ∧ ((He.cT K (tx s.d.name, none)).2, lamN s.d) ∈ tb ∧ ∀ q ∈ tb, q.1 = (He.cT K (tx s.d.name, none)).2 → q.2 = lamN s.d
theorem lm_of {tb : List (Addr × Str)} {cs : List (Addr × Addr)} {ca : Nat → Addr} {xc : Nat → Value} {s : Src} (lm : LmOk K tb cs ss) (hs : s ∈ ss) {fd : FuncData} {fa : Addr} (e : He.ga K (tx s.d.name) = fa)
    (F : FunD K (tx s.d.name) (tx s.d.name) (defArgs s.st) (defBody s.st) (defScope s.st) [] [] fa fd) :
    s.d.lam = true → ∃ cA P, fd.code = .ref cA ∧ (cA, P) ∈ cs ∧ (P, lamN s.d) ∈ tb ∧ ∀ q ∈ tb, q.1 = P → q.2 = lamN s.d := fun hl => by
  obtain ⟨m1, m2, m3⟩ := lm s hs hl
  obtain ⟨oc, od, dV, kV, doc, pm, an, cdv, ct, osl, rfl, lk, hcd, _, _⟩ := F.ex
  obtain ⟨c0, rfl⟩ := He.codeIn_ref hcd
  have ec : He.codeOf K (tx s.d.name, none) = c0 := He.codeOf_eq (by show K.lookup (He.ga K (tx s.d.name)) = _; rw [e]; exact lk) rfl
  refine ⟨(He.cT K (tx s.d.name, none)).1, (He.cT K (tx s.d.name, none)).2, ?_, m1, m2, m3⟩
  show Value.ref c0 = .ref (He.codeOf K (tx s.d.name, none))
  rw [ec]
theorem prgs_of (ca : Nat → Addr) (xc : Nat → Value) (tb : List (Addr × Str)) (cs : List (Addr × Addr)) (lm : LmOk K tb cs ss) (X : K.In h) (G : h.Ns mainGlobals mg) (c : He.SaysD (faOf ss ++ more) (ss.map Src.dd) K) (hp : p.fns = ss.map (·.d)) (ok : ss.all (Src.okB p) = true) (bd : BdAll ss)
    (gs : ∀ (i : Nat) (q : Txt × Val), p.gs[i]? = some q → ∃ u V, mg (tx q.1) = some u ∧ RelV V u ∧ ∀ ρ H, Rel ⟨K, ca, xc, tb⟩ ρ H q.2 V) : Prgs cs ⟨K, ca, xc, tb⟩ mg p := by
  refine ⟨fun f d hd => ?_, fun x hx => ?_, gs⟩
  · rw [hp, List.getElem?_map] at hd
    cases q : ss[f]? with
    | none => rw [q] at hd; cases hd
    | some s =>
      rw [q] at hd
      cases hd
      have hm := List.mem_of_getElem? q
      obtain ⟨fd, F⟩ := c.def_ f (d := s.dd) (by rw [List.getElem?_map, q]; rfl)
      have k := List.all_eq_true.mp ok s hm
      simp only [Src.okB, Bool.and_eq_true] at k
      have F' : FunD K (tx s.d.name) (tx s.d.name) (defArgs s.st) (defBody s.st) (defScope s.st) [] [] (He.ga K (tx s.d.name)) fd := F
      refine ⟨_, fd, _, _, _, F', ?_, F'.bindsN (bd.all s hm), scB_ok k.1, k.2, lm_of (ca := ca) (xc := xc) lm hm rfl F'⟩
      exact He.glo_ok X G (fact_mem c (List.mem_append_left _ (List.mem_append_left _ (List.mem_map.mpr ⟨s, hm, rfl⟩))))
  · exact He.free_ok X G (fact_mem c (List.mem_append_left _ (List.mem_append_right _ (List.mem_map.mpr ⟨x, hx, rfl⟩))))
theorem script_ok {g : Gd} {N f : Nat} {d : Def} (hd : p.fns[f]? = some d) (h1 : d.ps.length = 1) {H : Hp} {a : Addr} {ns : List Int} (hl : ns.length ≤ 63) (ht : ∀ q ∈ g.tb, H q.1 = some (.tbl #[]))
    (L : ∃ st', callN p N f [.lst (ns.map .int)] [] = .ok (.bl true) st') (hS : (∃ o, H a = some (.frz o (.lst (ns.map V.int)))) ∨ KLst g.K a (ns.map V.int)) : spF g p N f [.ref a] H (fun v _ => v = .bl true) fun _ _ _ => False := by
  obtain ⟨st', e⟩ := L
  have ri : ∀ ns : List Int, Rels g [] H (ns.map .int) (ns.map V.int) := fun ns => by
    induction ns with
    | nil => exact .nil
    | cons n r ih => exact .cons (by simp only [Rel]) ih
  refine ⟨[], [], [.lst (ns.map .int)], ⟨rfl, List.nodup_nil, fun n o a q => by simp at q, fun q hq => ⟨List.not_mem_nil, #[], ht q hq, trivial, fun pos cv z => ?_⟩⟩, .cons ?_ .nil, ⟨d, hd, h1.symm⟩, ?_⟩
  · simp [codeAmong] at z
  · simp only [Rel]
    exact ⟨a, _, rfl, hS, by rw [List.length_map]; exact Nat.le_trans hl (by decide), ri ns⟩
  · rw [e]
    intro ρ' H' _ _ V r
    simpa only [Rel] using r
theorem script_okL {g : Gd} {N f : Nat} {d : Def} (hd : p.fns[f]? = some d) (h1 : d.ps.length = 1) {H : Hp} {a : Addr} {ns : List Int} (hl : ns.length ≤ 63) (ht : ∀ q ∈ g.tb, H q.1 = some (.tbl #[]))
    (L : ∃ st', callN p N f [.lst (ns.map .int)] [] = .ok (.bl true) st') (hS : SqL g.K H a (ns.map V.int)) : spL g p N f [.ref a] H (fun v _ => v = .bl true) fun _ _ _ => False := by
  rcases hS with (z | z) | z
  · refine .inr ⟨a, _, z, fun od => script_ok hd h1 hl (fun q hq => ?_) L (.inl ⟨od, upd_same⟩)⟩
    have k := ht q hq
    rw [upd_ne (fun e => by rw [e, z] at k; cases k)]
    exact k
  · exact .inl (script_ok hd h1 hl ht L (.inl z))
  · exact .inl (script_ok hd h1 hl ht L (.inr z))
theorem walk_end {l : PySem.W.OpenLaw} {q : Program} {loose : List Str} {XP : (Str → Option Value) → Heap → Prop} {d : DefRec} {N f : Nat} {df : Def} {x : Txt} {tf : List Txt}
    (hn : l.most = some 63) (hdf : d.params.defaults = []) (hr : Room (N + 1) callerA) (hp : p.fns = ss.map (·.d)) (hf : p.fns[f]? = some df) (hx : df.ps = [x]) (hnm : d.name = tx df.name)
    (ok : ss.all (Src.okB p) = true) (bd : BdAll ss) (ht : tf.length ≤ 1) (hlm : ss.all (fun s => !s.d.lam || tf.contains s.d.name) = true)
    (gs : ∀ (K : PySem.W.Frag) (tb : List (Addr × Str)) (h : Heap) (mg : Str → Option Value), K.In h → h.Ns mainGlobals mg → He.SaysD (faOf ss ++ more) (ss.map Src.dd) K →
      ∀ (i : Nat) (q : Txt × Val), p.gs[i]? = some q → ∃ u V, mg (tx q.1) = some u ∧ RelV V u ∧ ∀ ρ H, Rel ⟨K, fun _ => 0, fun _ => .none, tb⟩ ρ H q.2 V)
    (L : ∀ ns : List Int, ns.length ≤ 63 → ∃ st', callN p (N + 1) f [.lst (ns.map .int)] [] = .ok (.bl true) st') :
    PySem.W.WalkO q loose XP (He.hookX 4 (faOf ss ++ more) (ss.map Src.dd) [] (tf.map fun t => (tx t, none)) (fun _ => true)).says l.row.toRowW d [] (fun f vs => PySem.call f vs) := by
  refine LamX.walk_ofTsE (k := N + 1) (CX := fun w => L2.CX l.prog w) (x := tx x) hn (by decide) hdf hr (fun w mg fa h Y G hmg => ?_) fun w H s e' s' z => ?_
  · obtain ⟨K, KX, cx⟩ := Y
    have c := cx.t.d
    refine ⟨K, KX, ?_⟩
    let tb : List (Addr × Str) := tf.map fun t => ((He.cT K (tx t, none)).2, (tx t ++ (".<locals>." : Str)) ++ ("<lambda>" : Str))
    let cs : List (Addr × Addr) := tf.map fun t => He.cT K (tx t, none)
    have lm : LmOk K tb cs ss := fun s hs hl => by
      have hm := List.all_eq_true.mp hlm s hs
      rw [hl] at hm
      have hm : s.d.name ∈ tf := by simpa using hm
      refine ⟨List.mem_map.mpr ⟨_, hm, rfl⟩, List.mem_map.mpr ⟨_, hm, rfl⟩, fun q hq _ => ?_⟩
      obtain ⟨t, ht', rfl⟩ := List.mem_map.mp hq
      have e : t = s.d.name := by
        match tf, ht, hm, ht' with
        | [z], _, h1, h2 => rw [List.mem_singleton.mp h1, List.mem_singleton.mp h2]
      rw [e]; rfl
    have S : Prgs cs ⟨K, fun _ => 0, fun _ => .none, tb⟩ mg p := prgs_of _ _ tb cs lm KX G c hp ok bd (gs K tb _ mg KX G c)
    obtain ⟨fa', fd, args, body, scope, F⟩ := S.fns f df hf
    have e : fa' = fa := by
      have e1 := F.mg
      rw [← hnm, hmg] at e1
      cases e1; rfl
    subst e
    have hfs : ∃ s ∈ ss, s.d = df ∧ ss[f]? = some s := by
      rw [hp, List.getElem?_map] at hf
      cases q : ss[f]? with
      | none => rw [q] at hf; cases hf
      | some s => rw [q] at hf; cases hf; exact ⟨s, List.mem_of_getElem? q, rfl, rfl⟩
    obtain ⟨s, hs, rfl, hsf⟩ := hfs
    obtain ⟨fd2, F2⟩ := c.def_ f (d := s.dd) (by rw [List.getElem?_map, hsf]; rfl)
    have F2' : FunD K (tx s.d.name) (tx s.d.name) (defArgs s.st) (defBody s.st) (defScope s.st) [] [] (He.ga K (tx s.d.name)) fd2 := F2
    have g2 := He.glo_ok KX G (fact_mem c (List.mem_append_left _ (List.mem_append_left _ (List.mem_map.mpr ⟨s, hs, rfl⟩))))
    have e2 : He.ga K (tx s.d.name) = fa' := by
      rw [F.mg] at g2; cases g2; rfl
    rw [e2] at F2'
    have k := List.all_eq_true.mp ok s hs
    simp only [Src.okB, Bool.and_eq_true] at k
    have b := FunD.bindsA F2' (bd.all s hs)
    have FI : FnIn cs ⟨K, fun _ => 0, fun _ => .none, tb⟩ mg p s.d fa' fd2 (defArgs s.st) (defBody s.st) (defScope s.st) := ⟨F2', F.mg, F2'.bindsN (bd.all s hs), scB_ok k.1, k.2, lm_of (ca := fun _ => 0) (xc := fun _ => .none) lm hs e2 F2'⟩
    have inT : ∀ {P : Addr × Addr → Prop}, (∀ t ∈ tf.map fun t => ((tx t, none) : He.Defn), P (He.cT K t)) → ∀ q ∈ cs, P q := fun {P} h q hq => by
      obtain ⟨t, ht', rfl⟩ := List.mem_map.mp hq
      exact h _ (List.mem_map.mpr ⟨t, ht', rfl⟩)
    refine ⟨fd2, cs, spL ⟨K, fun _ => 0, fun _ => .none, tb⟩ p (N + 1) f, inT cx.empty, inT cx.out, inT fun t h => PySem.W.codeHd_of_K KX (cx.hd t h), fun sh u => ?_, fun H a ns hlen _ hT hS => ?_, fun base hb hns hTB => ?_⟩
    · have := b sh [u] (by rw [hx]; rfl)
      rw [hx] at this
      exact this
    · refine script_okL hf (by rw [hx]; rfl) hlen (fun q hq => ?_) (L ns hlen) hS
      obtain ⟨t, ht', rfl⟩ := List.mem_map.mp hq
      exact hT _ (List.mem_map.mpr ⟨t, ht', rfl⟩)
    · have := fn_law (P := l.prog) (w := w) (base := base) hTB S (n := N) hf FI
      rw [hx] at this
      exact this
  · obtain ⟨_, _, _, _, _, _, _, _, _, _, _, _, z⟩ := z
    exact z
end
end Mi
namespace Mi

/-! the plain law: rules for what an expression, a statement comes to -/
def RetD {α : Type} (r : Res α) (Q : α → Store → Prop) : Prop := match r with
  | .ok v st => Q v st
  | _ => False
/-- shut: no term in brackets goes in by itself -/
inductive Ret {α : Type} (r : Res α) (Q : α → Store → Prop) : Prop where
  | mk (h : RetD r Q)
  | mk2 (h : RetD r Q)
theorem Ret.out {α : Type} {r : Res α} {Q : α → Store → Prop} (h : Ret r Q) : RetD r Q := by
  cases h with
  | mk h => exact h
  | mk2 h => exact h
structure De where
  nx : Env → Store → Prop
  rt : Val → Store → Prop
  bk : Env → Store → Prop := fun _ _ => False
  ct : Env → Store → Prop := fun _ _ => False
def FlPD (f : Fl) (D : De) : Prop := match f with
  | .nx η st => D.nx η st
  | .rt v st => D.rt v st
  | .bk η st => D.bk η st
  | .ct η st => D.ct η st
  | _ => False
inductive FlP (f : Fl) (D : De) : Prop where
  | mk (h : FlPD f D)
  | mk2 (h : FlPD f D)
theorem FlP.out {f : Fl} {D : De} (h : FlP f D) : FlPD f D := by
  cases h with
  | mk h => exact h
  | mk2 h => exact h
section
variable {α β : Type} {r : Res α} {Q R : α → Store → Prop} {η : Env} {st : Store} {C : Itp}
theorem Ret.imp (h : Ret r Q) (i : ∀ v st, Q v st → R v st) : Ret r R := by
  cases r with
  | ok v st => exact .mk (i _ _ h.out)
  | ex _ _ => exact h.out.elim
  | no => exact h.out.elim
theorem Ret.ex (h : Ret r Q) : ∃ v st, r = .ok v st ∧ Q v st := by
  cases r with
  | ok v st => exact ⟨v, st, rfl, h.out⟩
  | ex _ _ => exact h.out.elim
  | no => exact h.out.elim
theorem ret_ok {v : α} (h : Q v st) : Ret (.ok v st) Q := .mk h
theorem ret_bind {f : α → Store → Res β} {S : β → Store → Prop} (h : Ret r fun v st => Ret (f v st) S) : Ret (r.bind f) S := by
  cases r with
  | ok v st => exact h.out
  | ex _ _ => exact h.out.elim
  | no => exact h.out.elim
theorem ret_bindN {f : α → Store → Res β} {S : β → Store → Prop} (h : Ret r fun v st => Ret (f v st) S) : Ret (r.bindN f) S := by
  cases r with
  | ok v st => exact h.out
  | ex _ _ => exact h.out.elim
  | no => exact h.out.elim
theorem ret_opt {o : Option α} {v : α} (e : o = some v) (h : Q v st) : Ret (opt o st) Q := by subst e; exact .mk h
theorem fl_of {D : De} {k : α → Store → Fl} (h : Ret r fun v st => FlP (k v st) D) : FlP (r.fl η k) D := by
  cases r with
  | ok v st => exact h.out
  | ex _ _ => exact h.out.elim
  | no => exact h.out.elim
end

section
variable {Q : Val → Store → Prop} {S : List Val → Store → Prop} {T : Bool → Store → Prop} {I : List Val × Option Nat → Store → Prop} {O : Option Int → Store → Prop} {η : Env} {st : Store} {C : Itp} {D : De}
noncomputable abbrev V (C : Itp) (e : Ex) (η : Env) (st : Store) : Res Val := (evA C e).v η st
noncomputable abbrev A (C : Itp) (e : Ex) (η : Env) (st : Store) : Res (List Val) := (evA C e).s η st
noncomputable abbrev B (C : Itp) (e : Ex) (η : Env) (st : Store) : Res Bool := (evA C e).t η st
noncomputable abbrev It (C : Itp) (e : Ex) (η : Env) (st : Store) : Res (List Val × Option Nat) := (evA C e).i η st
theorem v_var {i : Nat} {v : Val} (h : η[i]? = some (some v)) (q : Q v st) : Ret (V C (.var i) η st) Q := by
  simp only [V, evA, plain, h]; exact ret_ok q
theorem v_lit {v : Val} (q : Q v st) : Ret (V C (.lit v) η st) Q := ret_ok q
theorem v_tup {as : Ex} (h : Ret (A C as η st) fun vs st => vs.length ≤ PySem.sizeLine ∧ Q (.tup vs) st) : Ret (V C (.tup as) η st) Q := by
  refine ret_bind (h.imp fun vs st q => ?_)
  rw [if_pos q.1]; exact ret_ok q.2
theorem v_lst {as : Ex} (h : Ret (A C as η st) fun vs st => vs.length ≤ PySem.sizeLine ∧ Q (.lst vs) st) : Ret (V C (.lst as) η st) Q := by
  refine ret_bind (h.imp fun vs st q => ?_)
  rw [if_pos q.1]; exact ret_ok q.2
theorem v_new {as : Ex} (h : Ret (A C as η st) fun vs st => vs.length ≤ PySem.sizeLine ∧ Q (.loc st.length) (st ++ [.lst vs])) : Ret (V C (.new as) η st) Q := by
  refine ret_bind (h.imp fun vs st q => ?_)
  rw [if_pos q.1]; exact ret_ok q.2
theorem v_dsp {as : Ex} (h : Ret (A C as η st) fun vs st => ∃ p, pairUp vs = some p ∧ p.1.length ≤ 15 ∧ Q (.dct (putAll p.1 p.2 ([], [])).1 (putAll p.1 p.2 ([], [])).2) st) : Ret (V C (.dsp as) η st) Q := by
  refine ret_bind (h.imp fun vs st q => ?_)
  obtain ⟨p, e, l, q⟩ := q
  simp only [e, if_pos l]; exact ret_ok q
theorem v_dnew {as : Ex} (h : Ret (A C as η st) fun vs st => ∃ p, pairUp vs = some p ∧ p.1.length ≤ 15 ∧ Q (.loc st.length) (st ++ [.dct (putAll p.1 p.2 ([], [])).1 (putAll p.1 p.2 ([], [])).2])) : Ret (V C (.dnew as) η st) Q := by
  refine ret_bind (h.imp fun vs st q => ?_)
  obtain ⟨p, e, l, q⟩ := q
  simp only [e, if_pos l]; exact ret_ok q
theorem v_dnew2 {as : Ex} {ks : List Txt} {xs : List Val} {D : List Txt × List Val} (h : Ret (A C as η st) fun vs st => pairUp vs = some (ks, xs) ∧ ks.length ≤ 15 ∧ putAll ks xs ([], []) = D ∧ Q (.loc st.length) (st ++ [.dct D.1 D.2])) : Ret (V C (.dnew as) η st) Q :=
  v_dnew (h.imp fun vs st ⟨e, l, f, q⟩ => ⟨_, e, l, by rw [f]; exact q⟩)
theorem v_dsp2 {as : Ex} {ks : List Txt} {xs : List Val} {D : List Txt × List Val} (h : Ret (A C as η st) fun vs st => pairUp vs = some (ks, xs) ∧ ks.length ≤ 15 ∧ putAll ks xs ([], []) = D ∧ Q (.dct D.1 D.2) st) : Ret (V C (.dsp as) η st) Q :=
  v_dsp (h.imp fun vs st ⟨e, l, f, q⟩ => ⟨_, e, l, by rw [f]; exact q⟩)
theorem a_nil (q : S [] st) : Ret (A C .nil η st) S := ret_ok q
theorem a_cons {a as : Ex} (h : Ret (V C a η st) fun v st => Ret (A C as η st) fun vs st => S (v :: vs) st) : Ret (A C (.cons a as) η st) S := ret_bind (h.imp fun _ _ q => ret_bind (q.imp fun _ _ q => ret_ok q))
theorem v_bin {o : BO} {a b : Ex} (h : Ret (V C a η st) fun x st => Ret (V C b η st) fun y st => ∃ z, binV st o x y = some z ∧ Q z st) : Ret (V C (.bin o a b) η st) Q :=
  ret_bind (h.imp fun _ _ q => ret_bind (q.imp fun _ _ ⟨z, e, q⟩ => ret_opt e q))
theorem v_cmp {o : CO} {a b : Ex} (h : Ret (V C a η st) fun x st => Ret (V C b η st) fun y st => ∃ z, cmpV st o x y = some z ∧ Q (.bl z) st) : Ret (V C (.cmp o a b) η st) Q :=
  ret_bind (h.imp fun _ _ q => ret_bind (q.imp fun _ _ ⟨z, e, q⟩ => ret_opt (by rw [e]; rfl) q))
theorem v_chain {o1 o2 : CO} {a b c : Ex} (h : Ret (V C a η st) fun x st => Ret (V C b η st) fun y st => ∃ z, cmpV st o1 x y = some z ∧ (z = true → Ret (V C c η st) fun w st => ∃ u, cmpV st o2 y w = some u ∧ Q (.bl u) st) ∧ (z = false → Q (.bl false) st)) : Ret (V C (.chain o1 o2 a b c) η st) Q :=
  ret_bind (h.imp fun _ _ q => ret_bind (q.imp fun y st ⟨z, e, q1, q2⟩ => by
    cases z with
    | true => simp only [e]; exact ret_bind ((q1 rfl).imp fun _ _ ⟨u, e, q⟩ => ret_opt (by rw [e]; rfl) q)
    | false => simp only [e]; exact ret_ok (q2 rfl)))
theorem v_neg {a : Ex} (h : Ret (V C a η st) fun x st => ∃ i, x = .int i ∧ Q (.int (-i)) st) : Ret (V C (.neg a) η st) Q :=
  ret_bind (h.imp fun _ _ ⟨i, e, q⟩ => by subst e; exact ret_ok q)
theorem v_ite {c a b : Ex} (h : Ret (B C c η st) fun t st => (t = true → Ret (V C a η st) Q) ∧ (t = false → Ret (V C b η st) Q)) : Ret (V C (.ite c a b) η st) Q :=
  ret_bind (h.imp fun t _ q => by
    cases t with
    | true => exact q.1 rfl
    | false => exact q.2 rfl)
theorem v_and {a b : Ex} (h : Ret (V C a η st) fun x st => ∃ t, x = .bl t ∧ (t = true → Ret (V C b η st) Q) ∧ (t = false → Q (.bl false) st)) : Ret (V C (.and a b) η st) Q :=
  ret_bind (h.imp fun x _ ⟨t, e, q1, q2⟩ => by
    subst e
    cases t with
    | true => exact q1 rfl
    | false => exact ret_ok (q2 rfl))
theorem v_or {a b : Ex} (h : Ret (V C a η st) fun x st => ∃ t, x = .bl t ∧ (t = false → Ret (V C b η st) Q) ∧ (t = true → Q (.bl true) st)) : Ret (V C (.or a b) η st) Q :=
  ret_bind (h.imp fun x _ ⟨t, e, q1, q2⟩ => by
    subst e
    cases t with
    | true => exact ret_ok (q2 rfl)
    | false => exact q1 rfl)
theorem v_not {a : Ex} (h : Ret (V C a η st) fun x st => ∃ t, x = .bl t ∧ Q (.bl !t) st) : Ret (V C (.not a) η st) Q :=
  ret_bind (h.imp fun x _ ⟨t, e, q⟩ => by subst e; exact ret_ok q)
theorem v_isN {yes : Bool} {a : Ex} (h : Ret (V C a η st) fun x st => (x = .non → Q (.bl yes) st) ∧ (x ≠ .non → Q (.bl !yes) st)) : Ret (V C (.isN yes a) η st) Q :=
  ret_bind (h.imp fun x _ q => by
    cases x with
    | non => exact ret_ok (q.1 rfl)
    | _ => exact ret_ok (q.2 (by intro h; cases h)))
theorem v_ix {a b : Ex} (h : Ret (V C a η st) fun x st => Ret (V C b η st) fun y st => ∃ z, ixV st x y = some z ∧ Q z st) : Ret (V C (.ix a b) η st) Q :=
  ret_bind (h.imp fun _ _ q => ret_bind (q.imp fun _ _ ⟨z, e, q⟩ => ret_opt e q))
theorem v_fn {f : FO} {as : Ex} (h : Ret (A C as η st) fun vs st => ∃ z, fnV st f vs = some z ∧ Q z st) : Ret (V C (.fn f as) η st) Q :=
  ret_bind (h.imp fun _ _ ⟨z, e, q⟩ => ret_opt e q)
theorem v_isi {t : TyN} {a : Ex} (h : Ret (V C a η st) fun x st => ∃ z, isiV t x = some z ∧ Q (.bl z) st) : Ret (V C (.isi t a) η st) Q :=
  ret_bind (h.imp fun _ _ ⟨z, e, q⟩ => ret_opt (by rw [e]; rfl) q)
theorem v_call {f : Nat} {as : Ex} (h : Ret (A C as η st) fun vs st => Ret (C.C f vs st) Q) : Ret (V C (.call f as) η st) Q := ret_bind h
theorem v_mt {m : MO} {o as : Ex} (h : Ret (V C o η st) fun x st => mtOk m x st = true ∧ Ret (A C as η st) fun vs st => ∃ z, mtV m x vs st = some z ∧ Q z.1 z.2) : Ret (V C (.mt m o as) η st) Q :=
  ret_bind (h.imp fun x st1 ⟨k, q⟩ => by
    rw [if_pos k]
    exact ret_bind (q.imp fun vs st ⟨z, e, q⟩ => by simp only [e]; exact ret_ok q))
theorem v_lc {vs : List Nat} {tg : Tg} {it c e : Ex} (h : Ret (It C it η st) fun p st => Ret (lcLoop (ckOf p.2 p.1) tg (wipeE η vs) (evA C c).t (evA C e).v p.1 [] st) fun xs st => Q (.lst xs) st) : Ret (V C (.lc vs tg it c e) η st) Q :=
  ret_bind (h.imp fun _ _ q => ret_bind (q.imp fun _ _ q => ret_ok q))
theorem v_lcn {vs : List Nat} {tg : Tg} {it c e : Ex} (h : Ret (It C it η st) fun p st => Ret (lcLoop (ckOf p.2 p.1) tg (wipeE η vs) (evA C c).t (evA C e).v p.1 [] st) fun xs st => Q (.loc st.length) (st ++ [.lst xs])) : Ret (V C (.lcn vs tg it c e) η st) Q :=
  ret_bind (h.imp fun _ _ q => ret_bind (q.imp fun _ _ q => ret_ok q))
theorem v_dcpy {a : Ex} (h : Ret (V C a η st) fun x st => ∃ p, asD st x = some p ∧ Q (.loc st.length) (st ++ [.dct p.1 p.2])) : Ret (V C (.dcpy a) η st) Q :=
  ret_bind (h.imp fun x st ⟨p, e, q⟩ => by simp only [dictV, e]; exact ret_ok q)
theorem v_sortK {a : Ex} (h : Ret (V C a η st) fun x st => ∃ xs ps, asL st x = some xs ∧ rowsOf xs = some ps ∧ (ps.map (·.1)).Nodup ∧ Q (.lst ((sortKs ps).map (·.2))) st) : Ret (V C (.sortK a) η st) Q :=
  ret_bind (h.imp fun x st ⟨xs, ps, e1, e2, nd, q⟩ => by simp only [e1, e2, Option.bind, if_pos nd]; exact ret_ok q)
theorem v_lnew {a : Ex} (h : Ret (V C a η st) fun x st => ∃ xs, listV st x = some xs ∧ Q (.loc st.length) (st ++ [.lst xs])) : Ret (V C (.lnew a) η st) Q :=
  ret_bind (h.imp fun x st ⟨p, e, q⟩ => by simp only [e]; exact ret_ok q)
/-! tests -/
theorem b_of {v : Env → Store → Res Val} (h : Ret (v η st) fun x st => ∃ b, x = .bl b ∧ T b st) : Ret ((plain v).t η st) T :=
  ret_bind (h.imp fun x _ ⟨b, e, q⟩ => by subst e; exact ret_ok q)
theorem b_cmp {o : CO} {a b : Ex} (h : Ret (V C a η st) fun x st => Ret (V C b η st) fun y st => ∃ z, cmpV st o x y = some z ∧ T z st) : Ret (B C (.cmp o a b) η st) T :=
  b_of (v_cmp (C := C) (h.imp fun _ _ q => q.imp fun _ _ ⟨z, e, q⟩ => ⟨z, e, z, rfl, q⟩))
theorem b_and {a b : Ex} (h : Ret (B C a η st) fun t st => (t = true → Ret (B C b η st) T) ∧ (t = false → T false st)) : Ret (B C (.and a b) η st) T :=
  ret_bind (h.imp fun t _ ⟨q1, q2⟩ => by
    cases t with
    | true => exact q1 rfl
    | false => exact ret_ok (q2 rfl))
theorem b_or {a b : Ex} (h : Ret (B C a η st) fun t st => (t = false → Ret (B C b η st) T) ∧ (t = true → T true st)) : Ret (B C (.or a b) η st) T :=
  ret_bind (h.imp fun t _ ⟨q1, q2⟩ => by
    cases t with
    | true => exact ret_ok (q2 rfl)
    | false => exact q1 rfl)
theorem b_not {a : Ex} (h : Ret (B C a η st) fun t st => T (!t) st) : Ret (B C (.not a) η st) T := ret_bind (h.imp fun _ _ q => ret_ok q)
theorem b_call {f : Nat} {as : Ex} (h : Ret (A C as η st) fun vs st => Ret (C.C f vs st) fun x st => ∃ b, x = .bl b ∧ T b st) : Ret (B C (.call f as) η st) T := b_of (v_call (C := C) h)
theorem b_isi {t : TyN} {a : Ex} (h : Ret (V C a η st) fun x st => ∃ z, isiV t x = some z ∧ T z st) : Ret (B C (.isi t a) η st) T :=
  b_of (v_isi (C := C) (h.imp fun _ _ ⟨z, e, q⟩ => ⟨z, e, z, rfl, q⟩))
theorem b_lit {b : Bool} (q : T b st) : Ret (B C (.lit (.bl b)) η st) T := ret_ok q
theorem b_var {i : Nat} {b : Bool} (h : η[i]? = some (some (.bl b))) (q : T b st) : Ret (B C (.var i) η st) T := b_of (v_var (C := C) h ⟨b, rfl, q⟩)
theorem b_isN {yes : Bool} {a : Ex} (h : Ret (V C a η st) fun x st => (x = .non → T yes st) ∧ (x ≠ .non → T (!yes) st)) : Ret (B C (.isN yes a) η st) T :=
  b_of (v_isN (C := C) (h.imp fun x st ⟨q1, q2⟩ => ⟨fun e => ⟨_, rfl, q1 e⟩, fun e => ⟨_, rfl, q2 e⟩⟩))
theorem b_chain {o1 o2 : CO} {a b c : Ex} (h : Ret (V C a η st) fun x st => Ret (V C b η st) fun y st => ∃ z, cmpV st o1 x y = some z ∧ (z = true → Ret (V C c η st) fun w st => ∃ u, cmpV st o2 y w = some u ∧ T u st) ∧ (z = false → T false st)) : Ret (B C (.chain o1 o2 a b c) η st) T :=
  b_of (v_chain (C := C) (h.imp fun _ _ q => q.imp fun _ _ ⟨z, e, q1, q2⟩ => ⟨z, e, fun k => (q1 k).imp fun _ _ ⟨u, e, q⟩ => ⟨u, e, u, rfl, q⟩, fun k => ⟨_, rfl, q2 k⟩⟩))
theorem b_mt {m : MO} {o as : Ex} (h : Ret (V C o η st) fun x st => mtOk m x st = true ∧ Ret (A C as η st) fun vs st => ∃ z, mtV m x vs st = some z ∧ ∃ b, z.1 = .bl b ∧ T b z.2) : Ret (B C (.mt m o as) η st) T :=
  b_of (v_mt (C := C) h)
theorem b_fn {f : FO} {as : Ex} (h : Ret (A C as η st) fun vs st => ∃ b, fnV st f vs = some (.bl b) ∧ T b st) : Ret (B C (.fn f as) η st) T :=
  b_of (v_fn (C := C) (h.imp fun _ _ ⟨z, e, q⟩ => ⟨_, e, z, rfl, q⟩))
/-! what is walked -/
theorem i_of {v : Env → Store → Res Val} (h : Ret (v η st) fun x st => ∃ p, itemsOf st x = some p ∧ I p st) : Ret ((plain v).i η st) I :=
  ret_bind (h.imp fun x _ ⟨p, e, q⟩ => ret_opt e q)
theorem i_var {i : Nat} {v : Val} (h : η[i]? = some (some v)) (q : ∃ p, itemsOf st v = some p ∧ I p st) : Ret (It C (.var i) η st) I := i_of (v_var (C := C) h q)
theorem i_ix {a b : Ex} (h : Ret (V C (.ix a b) η st) fun x st => ∃ p, itemsOf st x = some p ∧ I p st) : Ret (It C (.ix a b) η st) I := i_of h
theorem i_fn {f : FO} {as : Ex} (h : Ret (V C (.fn f as) η st) fun x st => ∃ p, itemsOf st x = some p ∧ I p st) : Ret (It C (.fn f as) η st) I := i_of h
theorem i_call {f : Nat} {as : Ex} (h : Ret (V C (.call f as) η st) fun x st => ∃ p, itemsOf st x = some p ∧ I p st) : Ret (It C (.call f as) η st) I := i_of h
theorem i_bin {o : BO} {a b : Ex} (h : Ret (V C (.bin o a b) η st) fun x st => ∃ p, itemsOf st x = some p ∧ I p st) : Ret (It C (.bin o a b) η st) I := i_of h
theorem i_sortK {a : Ex} (h : Ret (V C (.sortK a) η st) fun x st => ∃ p, itemsOf st x = some p ∧ I p st) : Ret (It C (.sortK a) η st) I := i_of h
theorem i_mt {m : MO} {o as : Ex} (h : Ret (V C (.mt m o as) η st) fun x st => ∃ p, itemsOf st x = some p ∧ I p st) : Ret (It C (.mt m o as) η st) I := i_of h
theorem i_sl {a lo hi : Ex} (h : Ret (V C (.sl a lo hi) η st) fun x st => ∃ p, itemsOf st x = some p ∧ I p st) : Ret (It C (.sl a lo hi) η st) I := i_of h
theorem i_lc {vs : List Nat} {tg : Tg} {it c e : Ex} (h : Ret (V C (.lc vs tg it c e) η st) fun x st => ∃ p, itemsOf st x = some p ∧ I p st) : Ret (It C (.lc vs tg it c e) η st) I := i_of h
theorem i_tup {as : Ex} (h : Ret (V C (.tup as) η st) fun x st => ∃ p, itemsOf st x = some p ∧ I p st) : Ret (It C (.tup as) η st) I := i_of h
theorem b_ix {a b : Ex} (h : Ret (V C (.ix a b) η st) fun x st => ∃ b, x = .bl b ∧ T b st) : Ret (B C (.ix a b) η st) T := b_of h
theorem i_rng {a : Ex} (h : Ret (V C a η st) fun x st => ∃ n : Int, x = .int n ∧ (-(2 ^ 24) < n ∧ n < 2 ^ 24) ∧ I ((List.range n.toNat).map fun (k : Nat) => Val.int k, none) st) : Ret (It C (.rng1 a) η st) I :=
  ret_bind (h.imp fun x _ ⟨n, e, l, q⟩ => by
    subst e
    show Ret (if -(2 ^ 24) < n ∧ n < 2 ^ 24 then _ else _) I
    rw [if_pos l]; exact ret_ok q)
/-! statements -/
theorem t_seq {a b : Sm} (h : FlP (exec C a η st) { nx := fun η st => FlP (exec C b η st) D, rt := D.rt, bk := D.bk, ct := D.ct }) : FlP (exec C (.seq a b) η st) D := by
  show FlP ((exec C a η st).then (exec C b)) D
  cases e : exec C a η st with
  | nx η st => rw [e] at h; exact h.out
  | rt v st => rw [e] at h; exact .mk h.out
  | bk η st => rw [e] at h; exact .mk h.out
  | ct η st => rw [e] at h; exact .mk h.out
  | xc x η st => rw [e] at h; exact h.out.elim
  | no => rw [e] at h; exact h.out.elim
theorem t_skip (h : D.nx η st) : FlP (exec C .skip η st) D := .mk h
theorem t_asg {i : Nat} {e : Ex} (h : Ret (V C e η st) fun v st => D.nx (η.set i (some v)) st) : FlP (exec C (.asg i e) η st) D := fl_of (h.imp fun _ _ q => .mk q)
theorem t_asgT {tg : Tg} {e : Ex} (h : Ret (V C e η st) fun v st => ∃ η', asgTg tg v η = some η' ∧ D.nx η' st) : FlP (exec C (.asgT tg e) η st) D :=
  fl_of (h.imp fun _ _ ⟨η', e, q⟩ => by simp only [e]; exact .mk q)
theorem t_put {o k e : Ex} (h : Ret (V C e η st) fun v st => Ret (V C o η st) fun x st => Ret (V C k η st) fun y st => ∃ st', putV x y v st = some st' ∧ D.nx η st') : FlP (exec C (.put o k e) η st) D :=
  fl_of (h.imp fun _ _ q => fl_of (q.imp fun _ _ q => fl_of (q.imp fun _ _ ⟨st', e, q⟩ => by simp only [e]; exact .mk q)))
theorem t_expr {e : Ex} (h : Ret (V C e η st) fun _ st => D.nx η st) : FlP (exec C (.expr e) η st) D := fl_of (h.imp fun _ _ q => .mk q)
theorem t_ret {e : Ex} (h : Ret (V C e η st) D.rt) : FlP (exec C (.ret e) η st) D := fl_of (h.imp fun _ _ q => .mk q)
theorem t_ite {c : Ex} {a b : Sm} (h : Ret (B C c η st) fun t st => (t = true → FlP (exec C a η st) D) ∧ (t = false → FlP (exec C b η st) D)) : FlP (exec C (.ite c a b) η st) D :=
  fl_of (h.imp fun t _ q => by
    cases t with
    | true => exact q.1 rfl
    | false => exact q.2 rfl)
theorem t_for {tg : Tg} {it : Ex} {body : Sm} (h : Ret (It C it η st) fun p st => FlP (forLoop (ckOf p.2 p.1) tg (exec C body) p.1 η st) D) : FlP (exec C (.for_ tg it body) η st) D := fl_of h
theorem t_frz {i : Nat} {v : Val} {p : Val × Store} (h : η[i]? = some (some v)) (e : frzV 1000 v st = some p) (q : D.nx (η.set i (some p.1)) p.2) : FlP (exec C (.frz i) η st) D := by
  simp only [exec, h, e]; exact .mk q
theorem fl_imp {f : Fl} {D E : De} (h : FlP f D) (h1 : ∀ η st, D.nx η st → E.nx η st) (h2 : ∀ v st, D.rt v st → E.rt v st) (h3 : ∀ η st, D.bk η st → E.bk η st) (h4 : ∀ η st, D.ct η st → E.ct η st) : FlP f E := by
  cases f with
  | nx _ _ => exact .mk (h1 _ _ h.out)
  | rt _ _ => exact .mk (h2 _ _ h.out)
  | bk _ _ => exact .mk (h3 _ _ h.out)
  | ct _ _ => exact .mk (h4 _ _ h.out)
  | xc _ _ _ => exact h.out.elim
  | no => exact h.out.elim
theorem for_nil {tg : Tg} {K : Env → Store → Fl} (h : D.nx η st) : FlP (forLoop (fun _ => true) tg K [] η st) D := .mk h
theorem for_cons {tg : Tg} {K : Env → Store → Fl} {x : Val} {xs : List Val} {η1 : Env} (e : asgTg tg x η = some η1)
    (h : FlP (K η1 st) { nx := fun η st => FlP (forLoop (fun _ => true) tg K xs η st) D, rt := D.rt, bk := D.nx, ct := fun η st => FlP (forLoop (fun _ => true) tg K xs η st) D }) : FlP (forLoop (fun _ => true) tg K (x :: xs) η st) D := by
  simp only [forLoop, if_true, e]
  cases q : K η1 st with
  | nx η st => rw [q] at h; exact h.out
  | rt v st => rw [q] at h; exact .mk h.out
  | bk η st => rw [q] at h; exact .mk h.out
  | ct η st => rw [q] at h; exact h.out
  | xc x η st => rw [q] at h; exact h.out.elim
  | no => rw [q] at h; exact h.out.elim
theorem for_inv {tg : Tg} {K : Env → Store → Fl} (J : Nat → Env → Store → Prop) : ∀ {xs : List Val} {η : Env} {st : Store}, J 0 η st →
    (∀ (k : Nat) (x : Val), xs[k]? = some x → ∀ η st, J k η st → ∃ η1, asgTg tg x η = some η1 ∧ FlP (K η1 st) { nx := J (k + 1), rt := D.rt, bk := D.nx, ct := J (k + 1) }) →
    (∀ η st, J xs.length η st → D.nx η st) → FlP (forLoop (fun _ => true) tg K xs η st) D := by
  intro xs
  induction xs generalizing J with
  | nil => exact fun j _ f => for_nil (f _ _ j)
  | cons x xs ih =>
    intro η st j s f
    obtain ⟨η1, e, h⟩ := s 0 x rfl η st j
    have next : ∀ η st, J 1 η st → FlP (forLoop (fun _ => true) tg K xs η st) D := fun η st j => ih (fun k => J (k + 1)) j (fun k y hy => s (k + 1) y hy) f
    exact for_cons e (fl_imp h next (fun _ _ h => h) (fun _ _ h => h) next)
theorem call_of {p : Prg} {n f : Nat} {as : List Val} {d : Def} (h : p.fns[f]? = some d) (hl : as.length = d.ps.length)
    (q : FlP (exec ⟨callN p n, p.gs⟩ d.body (as.map some ++ List.replicate (d.ns.length - as.length) none) st) { nx := fun _ st => Q .non st, rt := Q }) : Ret (callN p (n + 1) f as st) Q := by
  simp only [callN_succ, h, if_pos hl]
  cases e : exec ⟨callN p n, p.gs⟩ d.body (as.map some ++ List.replicate (d.ns.length - as.length) none) st with
  | nx η st => rw [e] at q; exact ret_ok q.out
  | rt v st => rw [e] at q; exact ret_ok q.out
  | bk η st => rw [e] at q; exact q.out.elim
  | ct η st => rw [e] at q; exact q.out.elim
  | xc x η st => rw [e] at q; exact q.out.elim
  | no => rw [e] at q; exact q.out.elim
/-! comprehensions -/
/-- pure: the store stays -/
theorem lc_pure {tg : Tg} {T : Env → Store → Res Bool} {E : Env → Store → Res Val} (t : Val → Bool) (f : Val → Val) {R : List Val → Store → Prop} : ∀ (xs acc : List Val),
    (∀ x ∈ xs, ∃ η1, asgTg tg x η = some η1 ∧ Ret (T η1 st) (fun b s => b = t x ∧ s = st) ∧ (t x = true → Ret (E η1 st) fun v s => v = f x ∧ s = st)) → acc.length + xs.length ≤ PySem.sizeLine →
    R (acc ++ (xs.filter t).map f) st → Ret (lcLoop (fun _ => true) tg η T E xs acc st) R
  | [], acc, _, _, r => ret_ok (by simpa using r)
  | x :: xs, acc, h, hl, r => by
    obtain ⟨η1, e, hT, hE⟩ := h x (by simp)
    simp only [lcLoop, if_true, e]
    refine ret_bindN (hT.imp fun b s ⟨hb, hs⟩ => ?_)
    rw [hs]
    cases q : t x with
    | false =>
      rw [q] at hb
      subst hb
      exact lc_pure t f xs acc (fun y hy => h y (by simp [hy])) (by simp at hl; omega) (by simpa [q] using r)
    | true =>
      rw [q] at hb
      subst hb
      refine ret_bindN ((hE q).imp fun v s ⟨hv, hs⟩ => ?_)
      rw [hs, hv]
      rw [if_pos (by simp at hl; omega)]
      exact lc_pure t f xs _ (fun y hy => h y (by simp [hy])) (by simp at hl ⊢; omega) (by simpa [q] using r)
/-- no test; an invariant of the store, a property of each element -/
theorem lc_all {tg : Tg} {T : Env → Store → Res Bool} {E : Env → Store → Res Val} (J : Store → Prop) (P : Val → Prop) {R : List Val → Store → Prop} : ∀ (xs acc : List Val) (st : Store), J st →
    (∀ x ∈ xs, ∃ η1, asgTg tg x η = some η1 ∧ (∀ s, T η1 s = .ok true s) ∧ ∀ s, J s → Ret (E η1 s) fun v s => P v ∧ J s) → acc.length + xs.length ≤ PySem.sizeLine → (∀ v ∈ acc, P v) →
    (∀ vs s, J s → (∀ v ∈ vs, P v) → vs.length = acc.length + xs.length → R vs s) → Ret (lcLoop (fun _ => true) tg η T E xs acc st) R
  | [], acc, st, j, _, _, ha, r => ret_ok (r acc st j ha (by simp))
  | x :: xs, acc, st, j, h, hl, ha, r => by
    obtain ⟨η1, e, hT, hE⟩ := h x (by simp)
    simp only [lcLoop, if_true, e, hT]
    refine ret_bindN (r := Res.ok true st) (ret_ok ?_)
    refine ret_bindN ((hE st j).imp fun v s ⟨hv, hs⟩ => ?_)
    rw [if_pos (by simp at hl; omega)]
    refine lc_all J P xs _ s hs (fun y hy => h y (by simp [hy])) (by simp at hl ⊢; omega) (fun y hy => ?_) fun vs s j hv hl => r vs s j hv (by simp at hl ⊢; omega)
    rcases List.mem_append.mp hy with hy | hy
    · exact ha y hy
    · simp at hy; subst hy; exact hv
theorem ckN (xs : List Val) : ckOf none xs = fun _ => true := rfl
end
/-! operations -/
section
variable {st : Store}
theorem bin_mod {i j : Int} (h : 0 < j) : binV st .mod (.int i) (.int j) = some (.int (i % j)) := by simp only [binV, if_pos h]
theorem bin_fdiv {i j : Int} (h : 0 < j) (h2 : j < 2 ^ 200) : binV st .fdiv (.int i) (.int j) = some (.int (i / j)) := by simp only [binV]; rw [if_pos ⟨h, h2⟩]
theorem bin_mul {i j : Int} (h : -(2 ^ 64) < j ∧ j < 2 ^ 64) : binV st .mul (.int i) (.int j) = some (.int (i * j)) := by simp only [binV]; rw [if_pos (.inr h)]
theorem bin_mulL {i j : Int} (h : -(2 ^ 64) < i ∧ i < 2 ^ 64) : binV st .mul (.int i) (.int j) = some (.int (i * j)) := by simp only [binV]; rw [if_pos (.inl h)]
theorem bin_pow {i j : Int} (h : 0 ≤ j ∧ j ≤ 1000000 ∧ -(2 ^ 63) < i ∧ i < 2 ^ 63) : binV st .pow (.int i) (.int j) = some (.int (i ^ j.toNat)) := by simp only [binV]; rw [if_pos h]
theorem cmp_int {i j : Int} : cmpV st .eq (.int i) (.int j) = some (i == j) := rfl
theorem cmp_str {i j : Txt} : cmpV st .eq (.str i) (.str j) = some (i == j) := rfl
end
/-! is True -/
theorem v_isB {Q : Val → Store → Prop} {C : Itp} {η : Env} {st : Store} {yes b : Bool} {a : Ex} (h : Ret (V C a η st) fun x st => ∃ c, x = .bl c ∧ Q (.bl (if yes then c == b else !(c == b))) st) : Ret (V C (.isB yes b a) η st) Q :=
  ret_bind (h.imp fun x _ ⟨c, e, q⟩ => by subst e; exact ret_ok q)
theorem b_isB {T : Bool → Store → Prop} {C : Itp} {η : Env} {st : Store} {yes b : Bool} {a : Ex} (h : Ret (V C a η st) fun x st => ∃ c, x = .bl c ∧ T (if yes then c == b else !(c == b)) st) : Ret (B C (.isB yes b a) η st) T :=
  b_of (v_isB (C := C) (h.imp fun x _ ⟨c, e, q⟩ => ⟨c, e, _, rfl, q⟩))
theorem i_lst {C : Itp} {η : Env} {st : Store} {I : List Val × Option Nat → Store → Prop} {as : Ex} (h : Ret (V C (.lst as) η st) fun x st => ∃ p, itemsOf st x = some p ∧ I p st) : Ret (It C (.lst as) η st) I := i_of h
/-! slices -/
section
variable {Q : Val → Store → Prop} {O : Option Int → Store → Prop} {C : Itp} {η : Env} {st : Store}
theorem v_sl {a lo hi : Ex} (h : Ret (V C a η st) fun x st => Ret ((evA C lo).o η st) fun l st => Ret ((evA C hi).o η st) fun u st => ∃ z, slV st x l u = some z ∧ Q z st) : Ret (V C (.sl a lo hi) η st) Q :=
  ret_bind (h.imp fun _ _ q => ret_bind (q.imp fun _ _ q => ret_bind (q.imp fun _ _ ⟨z, e, q⟩ => ret_opt e q)))
theorem o_nil (q : O none st) : Ret ((evA C .nil).o η st) O := ret_ok q
theorem o_int {i : Int} (q : O (some i) st) : Ret ((evA C (.lit (.int i))).o η st) O := ret_ok q
theorem o_of {v : Env → Store → Res Val} (h : Ret (v η st) fun x st => ∃ i, x = .int i ∧ O (some i) st) : Ret ((plain v).o η st) O :=
  ret_bind (h.imp fun x _ ⟨i, e, q⟩ => by subst e; exact ret_ok q)
theorem o_var {i : Nat} {n : Int} (h : η[i]? = some (some (.int n))) (q : O (some n) st) : Ret ((evA C (.var i)).o η st) O := o_of (v_var (C := C) h ⟨_, rfl, q⟩)
theorem o_bin {o : BO} {a b : Ex} (h : Ret (V C (.bin o a b) η st) fun x st => ∃ i, x = .int i ∧ O (some i) st) : Ret ((evA C (.bin o a b)).o η st) O := o_of h
end
/-! known tests -/
theorem iteF {P Q : Prop} (h : Q) : (false = true → P) ∧ (false = false → Q) := ⟨fun z => (nomatch z), fun _ => h⟩
theorem iteT {P Q : Prop} (h : P) : (true = true → P) ∧ (true = false → Q) := ⟨fun _ => h, fun z => (nomatch z)⟩
theorem orF {P Q : Prop} (h : P) : (false = false → P) ∧ (false = true → Q) := ⟨fun _ => h, fun z => (nomatch z)⟩
theorem orT {P Q : Prop} (h : Q) : (true = false → P) ∧ (true = true → Q) := ⟨fun z => (nomatch z), fun _ => h⟩
theorem iteF' {t : Bool} {P Q : Prop} (e : t = false) (h : Q) : (t = true → P) ∧ (t = false → Q) := by subst e; exact iteF h
theorem iteT' {t : Bool} {P Q : Prop} (e : t = true) (h : P) : (t = true → P) ∧ (t = false → Q) := by subst e; exact iteT h
theorem orF' {t : Bool} {P Q : Prop} (e : t = false) (h : P) : (t = false → P) ∧ (t = true → Q) := by subst e; exact orF h
end Mi
namespace Mi
def d_shown_kind : Def := ⟨[115, 104, 111, 119, 110, 95, 107, 105, 110, 100], [[107, 105, 110, 100]], [[107, 105, 110, 100], [99, 104, 111, 105, 99, 101]],
 (.seq (.ret (.mt .join (.lit (.str [32, 124, 32])) (.cons (.lc [1] (.nm 1) (.var 0) (.lit (.bl true)) (.call 1 (.cons (.var 1) .nil))) .nil)))
 .skip), false⟩
def d_shown_choice : Def := ⟨[115, 104, 111, 119, 110, 95, 99, 104, 111, 105, 99, 101], [[99, 104, 111, 105, 99, 101]], [[99, 104, 111, 105, 99, 101], [119, 111, 114, 100], [102, 105, 101, 108, 100], [107, 105, 110, 100]],
 (.seq (.asg 1 (.ix (.var 0) (.lit (.int 0))))
 (.seq (.ite (.cmp .isin (.var 1) (.tup (.cons (.lit (.str [114, 111, 119])) (.cons (.lit (.str [98, 111, 111, 107])) .nil))))
  (.seq (.ret (.bin .add (.bin .add (.bin .add (.var 1) (.lit (.str [40]))) (.call 0 (.cons (.ix (.var 0) (.lit (.int 1))) .nil))) (.lit (.str [41]))))
  .skip)
  .skip)
 (.seq (.ite (.cmp .eq (.var 1) (.lit (.str [115, 104, 97, 112, 101])))
  (.seq (.ret (.bin .add (.bin .add (.lit (.str [123])) (.mt .join (.lit (.str [44, 32])) (.cons (.lc [2, 3] (.tp [2, 3]) (.ix (.var 0) (.lit (.int 1))) (.lit (.bl true)) (.bin .add (.bin .add (.var 2) (.lit (.str [58, 32]))) (.call 0 (.cons (.var 3) .nil)))) .nil))) (.lit (.str [125]))))
  .skip)
  .skip)
 (.seq (.ite (.cmp .eq (.var 1) (.lit (.str [108, 101, 116, 116, 101, 114])))
  (.seq (.ret (.ix (.var 0) (.lit (.int 1))))
  .skip)
  .skip)
 (.seq (.ite (.cmp .eq (.var 1) (.lit (.str [99, 117, 116])))
  (.seq (.ret (.bin .add (.bin .add (.bin .add (.ix (.var 0) (.lit (.int 1))) (.lit (.str [40]))) (.mt .join (.lit (.str [44, 32])) (.cons (.fn .list (.cons (.ix (.var 0) (.lit (.int 2))) .nil)) .nil))) (.lit (.str [41]))))
  .skip)
  .skip)
 (.seq (.ite (.cmp .isin (.var 1) (.tup (.cons (.lit (.str [115, 111, 109, 101])) (.cons (.lit (.str [119, 105, 116, 104])) .nil))))
  (.seq (.ret (.bin .add (.bin .add (.var 1) (.lit (.str [32]))) (.ix (.var 0) (.lit (.int 1)))))
  .skip)
  .skip)
 (.seq (.ret (.var 1))
 .skip))))))), false⟩
def d_joined : Def := ⟨[106, 111, 105, 110, 101, 100], [[107, 105, 110, 100, 115]], [[107, 105, 110, 100, 115], [102, 111, 117, 110, 100], [107, 105, 110, 100], [99, 104, 111, 105, 99, 101], [116, 101, 120, 116]],
 (.seq (.asg 1 (.dnew .nil))
 (.seq (.for_ (.nm 2) (.var 0)
  (.seq (.for_ (.nm 3) (.var 2)
   (.seq (.put (.var 1) (.call 1 (.cons (.var 3) .nil)) (.var 3))
   .skip))
  .skip))
 (.seq (.ret (.fn .tuple (.cons (.lc [4] (.nm 4) (.fn .sorted (.cons (.fn .list (.cons (.var 1) .nil)) .nil)) (.lit (.bl true)) (.ix (.var 1) (.var 4))) .nil)))
 .skip))), false⟩
def d_head_of_choice : Def := ⟨[104, 101, 97, 100, 95, 111, 102, 95, 99, 104, 111, 105, 99, 101], [[99, 104, 111, 105, 99, 101]], [[99, 104, 111, 105, 99, 101], [102, 105, 101, 108, 100], [107, 105, 110, 100]],
 (.seq (.ite (.cmp .eq (.ix (.var 0) (.lit (.int 0))) (.lit (.str [115, 104, 97, 112, 101])))
  (.seq (.ret (.bin .add (.lit (.str [115, 104, 97, 112, 101, 32])) (.mt .join (.lit (.str [32])) (.cons (.lc [1, 2] (.tp [1, 2]) (.ix (.var 0) (.lit (.int 1))) (.lit (.bl true)) (.var 1)) .nil))))
  .skip)
  .skip)
 (.seq (.ret (.ix (.var 0) (.lit (.int 0))))
 .skip)), false⟩
def d_heads_of : Def := ⟨[104, 101, 97, 100, 115, 95, 111, 102], [[99, 104, 111, 105, 99, 101], [98, 111, 117, 110, 100, 115]], [[99, 104, 111, 105, 99, 101], [98, 111, 117, 110, 100, 115], [104, 101, 97, 100, 115], [111, 110, 101]],
 (.seq (.ite (.cmp .eq (.ix (.var 0) (.lit (.int 0))) (.lit (.str [99, 117, 116])))
  (.seq (.ret (.ix (.var 0) (.lit (.int 2))))
  .skip)
  .skip)
 (.seq (.asg 2 (.dnew .nil))
 (.seq (.for_ (.nm 3) (.ix (.var 1) (.ix (.var 0) (.lit (.int 1))))
  (.seq (.put (.var 2) (.call 3 (.cons (.var 3) .nil)) (.lit (.bl true)))
  .skip))
 (.seq (.ret (.fn .tuple (.cons (.fn .sorted (.cons (.fn .list (.cons (.var 2) .nil)) .nil)) .nil)))
 .skip)))), false⟩
def d_fits_ask : Def := ⟨[102, 105, 116, 115, 95, 97, 115, 107], [[104, 101, 97, 100], [97, 115, 107]], [[104, 101, 97, 100], [97, 115, 107]],
 (.seq (.ite (.cmp .eq (.ix (.var 1) (.lit (.int 0))) (.lit (.str [105, 115])))
  (.seq (.ret (.or (.cmp .eq (.var 0) (.ix (.var 1) (.lit (.int 1)))) (.and (.cmp .eq (.ix (.var 1) (.lit (.int 1))) (.lit (.str [115, 104, 97, 112, 101]))) (.cmp .eq (.sl (.var 0) .nil (.lit (.int 6))) (.lit (.str [115, 104, 97, 112, 101, 32]))))))
  .skip)
  .skip)
 (.seq (.ret (.and (.cmp .eq (.sl (.var 0) .nil (.lit (.int 6))) (.lit (.str [115, 104, 97, 112, 101, 32]))) (.cmp .isin (.ix (.var 1) (.lit (.int 1))) (.mt .split (.sl (.var 0) (.lit (.int 6)) .nil) (.cons (.lit (.str [32])) .nil)))))
 .skip)), false⟩
def d_cut_to : Def := ⟨[99, 117, 116, 95, 116, 111], [[108, 101, 116, 116, 101, 114], [104, 101, 97, 100, 115], [98, 111, 117, 110, 100, 115]], [[108, 101, 116, 116, 101, 114], [104, 101, 97, 100, 115], [98, 111, 117, 110, 100, 115]],
 (.seq (.ite (.cmp .eq (.fn .len (.cons (.var 1) .nil)) (.lit (.int 0)))
  (.seq (.ret (.tup .nil))
  .skip)
  .skip)
 (.seq (.ite (.cmp .eq (.var 1) (.call 4 (.cons (.tup (.cons (.lit (.str [108, 101, 116, 116, 101, 114])) (.cons (.var 0) .nil))) (.cons (.var 2) .nil))))
  (.seq (.ret (.tup (.cons (.tup (.cons (.lit (.str [108, 101, 116, 116, 101, 114])) (.cons (.var 0) .nil))) .nil)))
  .skip)
  .skip)
 (.seq (.ret (.tup (.cons (.tup (.cons (.lit (.str [99, 117, 116])) (.cons (.var 0) (.cons (.var 1) .nil)))) .nil)))
 .skip))), false⟩
def d_narrowed : Def := ⟨[110, 97, 114, 114, 111, 119, 101, 100], [[107, 105, 110, 100], [98, 111, 117, 110, 100, 115], [97, 115, 107]], [[107, 105, 110, 100], [98, 111, 117, 110, 100, 115], [97, 115, 107], [121, 101, 115], [110, 111], [99, 104, 111, 105, 99, 101], [104, 101, 97, 100, 115], [103, 111, 111, 100], [98, 97, 100], [104, 101, 97, 100]],
 (.seq (.asg 3 (.new .nil))
 (.seq (.asg 4 (.new .nil))
 (.seq (.for_ (.nm 5) (.var 0)
  (.seq (.ite (.or (.cmp .eq (.ix (.var 5) (.lit (.int 0))) (.lit (.str [108, 101, 116, 116, 101, 114]))) (.cmp .eq (.ix (.var 5) (.lit (.int 0))) (.lit (.str [99, 117, 116]))))
   (.seq (.asg 6 (.call 4 (.cons (.var 5) (.cons (.var 1) .nil))))
   (.seq (.asg 7 (.fn .tuple (.cons (.lc [9] (.nm 9) (.var 6) (.call 5 (.cons (.var 9) (.cons (.var 2) .nil))) (.var 9)) .nil)))
   (.seq (.asg 8 (.fn .tuple (.cons (.lc [9] (.nm 9) (.var 6) (.not (.call 5 (.cons (.var 9) (.cons (.var 2) .nil)))) (.var 9)) .nil)))
   (.seq (.expr (.mt .append (.var 3) (.cons (.call 6 (.cons (.ix (.var 5) (.lit (.int 1))) (.cons (.var 7) (.cons (.var 1) .nil)))) .nil)))
   (.seq (.expr (.mt .append (.var 4) (.cons (.call 6 (.cons (.ix (.var 5) (.lit (.int 1))) (.cons (.var 8) (.cons (.var 1) .nil)))) .nil)))
   .skip)))))
   (.seq (.ite (.call 5 (.cons (.call 3 (.cons (.var 5) .nil)) (.cons (.var 2) .nil)))
    (.seq (.expr (.mt .append (.var 3) (.cons (.tup (.cons (.var 5) .nil)) .nil)))
    .skip)
    (.seq (.expr (.mt .append (.var 4) (.cons (.tup (.cons (.var 5) .nil)) .nil)))
    .skip))
   .skip))
  .skip))
 (.seq (.ret (.tup (.cons (.call 2 (.cons (.var 3) .nil)) (.cons (.call 2 (.cons (.var 4) .nil)) .nil))))
 .skip)))), false⟩
def d_law_begun : Def := ⟨[95, 108, 97, 119, 95, 98, 101, 103, 117, 110], [[95, 108, 97, 119, 95, 115, 99, 114, 105, 112, 116]], [[95, 108, 97, 119, 95, 115, 99, 114, 105, 112, 116], [95, 108, 97, 119, 95, 115], [95, 108, 97, 119, 95, 99, 101, 108, 108]],
 (.seq (.asg 1 (.dnew (.cons (.lit (.str [99, 101, 108, 108, 115])) (.cons (.var 0) (.cons (.lit (.str [97, 116])) (.cons (.lit (.int 0)) (.cons (.lit (.str [115, 105, 122, 101])) (.cons (.lit (.int 1)) (.cons (.lit (.str [112, 108, 97, 99, 101])) (.cons (.lit (.int 0)) (.cons (.lit (.str [116, 117, 114, 110])) (.cons (.lit (.int 0)) (.cons (.lit (.str [114, 101, 115, 116])) (.cons (.lit (.int 0)) (.cons (.lit (.str [102, 117, 110, 99, 116, 105, 111, 110, 115])) (.cons (.lst .nil) (.cons (.lit (.str [111, 100, 100])) (.cons (.lit (.int 0)) (.cons (.lit (.str [116, 97, 108, 107])) (.cons (.lit (.int 0)) .nil))))))))))))))))))))
 (.seq (.put (.var 1) (.lit (.str [115, 101, 101, 100])) (.bin .add (.lit (.int 7)) (.fn .sum (.cons (.lc [2] (.nm 2) (.var 0) (.lit (.bl true)) (.bin .mul (.lit (.int 31)) (.fn .abs (.cons (.var 2) .nil)))) .nil))))
 (.seq (.put (.var 1) (.lit (.str [115, 105, 122, 101])) (.bin .add (.lit (.int 1)) (.call 9 (.cons (.var 1) (.cons (.lit (.int 8)) .nil)))))
 (.seq (.put (.var 1) (.lit (.str [112, 108, 97, 99, 101])) (.call 9 (.cons (.var 1) (.cons (.ix (.var 1) (.lit (.str [115, 105, 122, 101]))) .nil))))
 (.seq (.put (.var 1) (.lit (.str [116, 117, 114, 110])) (.call 9 (.cons (.var 1) (.cons (.lit (.int 26)) .nil))))
 (.seq (.put (.var 1) (.lit (.str [116, 97, 108, 107])) (.fn .int (.cons (.cmp .eq (.call 9 (.cons (.var 1) (.cons (.lit (.int 9)) .nil))) (.lit (.int 8))) .nil)))
 (.seq (.ret (.var 1))
 .skip))))))), false⟩
def d_law_taken : Def := ⟨[95, 108, 97, 119, 95, 116, 97, 107, 101, 110], [[95, 108, 97, 119, 95, 115], [95, 108, 97, 119, 95, 109, 111, 115, 116]], [[95, 108, 97, 119, 95, 115], [95, 108, 97, 119, 95, 109, 111, 115, 116], [95, 108, 97, 119, 95, 102, 111, 117, 110, 100]],
 (.seq (.ite (.cmp .eq (.ix (.var 0) (.lit (.str [114, 101, 115, 116]))) (.lit (.int 0)))
  (.seq (.put (.var 0) (.lit (.str [97, 116])) (.bin .add (.ix (.var 0) (.lit (.str [97, 116]))) (.lit (.int 1))))
  (.seq (.ite (.cmp .gt (.ix (.var 0) (.lit (.str [97, 116]))) (.fn .len (.cons (.ix (.var 0) (.lit (.str [99, 101, 108, 108, 115]))) .nil)))
   (.seq (.put (.var 0) (.lit (.str [115, 101, 101, 100])) (.bin .mod (.bin .add (.bin .mul (.ix (.var 0) (.lit (.str [115, 101, 101, 100]))) (.lit (.int 48271))) (.lit (.int 11))) (.lit (.int 2147483647))))
   (.seq (.asg 2 (.bin .fdiv (.ix (.var 0) (.lit (.str [115, 101, 101, 100]))) (.lit (.int 64))))
   (.seq (.ret (.ite (.cmp .gt (.var 1) (.bin .pow (.lit (.int 10)) (.lit (.int 8)))) (.bin .mod (.bin .pow (.var 2) (.lit (.int 5))) (.var 1)) (.bin .mod (.var 2) (.var 1))))
   .skip)))
   .skip)
  (.seq (.ite (.cmp .lt (.ix (.ix (.var 0) (.lit (.str [99, 101, 108, 108, 115]))) (.bin .sub (.ix (.var 0) (.lit (.str [97, 116]))) (.lit (.int 1)))) (.bin .pow (.lit (.int 10)) (.lit (.int 18))))
   (.seq (.ret (.bin .mod (.ix (.ix (.var 0) (.lit (.str [99, 101, 108, 108, 115]))) (.bin .sub (.ix (.var 0) (.lit (.str [97, 116]))) (.lit (.int 1)))) (.var 1)))
   .skip)
   .skip)
  (.seq (.put (.var 0) (.lit (.str [114, 101, 115, 116])) (.ix (.ix (.var 0) (.lit (.str [99, 101, 108, 108, 115]))) (.bin .sub (.ix (.var 0) (.lit (.str [97, 116]))) (.lit (.int 1)))))
  .skip))))
  .skip)
 (.seq (.asg 2 (.bin .mod (.ix (.var 0) (.lit (.str [114, 101, 115, 116]))) (.var 1)))
 (.seq (.put (.var 0) (.lit (.str [114, 101, 115, 116])) (.bin .fdiv (.ix (.var 0) (.lit (.str [114, 101, 115, 116]))) (.var 1)))
 (.seq (.ret (.var 2))
 .skip)))), false⟩
def d_law_word : Def := ⟨[95, 108, 97, 119, 95, 119, 111, 114, 100], [[95, 108, 97, 119, 95, 115], [95, 108, 97, 119, 95, 107]], [[95, 108, 97, 119, 95, 115], [95, 108, 97, 119, 95, 107], [95, 108, 97, 119, 95, 119, 111, 114, 100, 115], [95, 108, 97, 119, 95, 115, 105, 103, 110]],
 (.seq (.ite (.and (.cmp .eq (.ix (.var 0) (.lit (.str [116, 97, 108, 107]))) (.lit (.int 1))) (.cmp .lt (.var 1) (.lit (.int 19))))
  (.seq (.asg 2 (.lst (.cons (.lit (.str [115, 105, 122, 101])) (.cons (.lit (.str [97, 116])) (.cons (.lit (.str [114, 111, 119])) (.cons (.lit (.str [105, 115])) (.cons (.lit (.str [104, 97, 115])) (.cons (.lit (.str [103, 101, 116])) (.cons (.lit (.str [112, 117, 116])) (.cons (.lit (.str [108, 111, 111, 107])) (.cons (.lit (.str [108, 101, 116])) (.cons (.lit (.str [101, 97, 99, 104])) (.cons (.lit (.str [102, 111, 108, 100])) (.cons (.lit (.str [105, 102])) (.cons (.lit (.str [112, 108, 117, 115])) (.cons (.lit (.str [109, 105, 110, 117, 115])) .nil))))))))))))))))
  (.seq (.ret (.ix (.bin .add (.var 2) (.lst (.cons (.lit (.str [106, 111, 105, 110])) (.cons (.lit (.str [112, 117, 115, 104])) (.cons (.lit (.str [110, 97, 109, 101])) (.cons (.lit (.str [116, 101, 120, 116])) (.cons (.lit (.str [98, 111, 111, 107])) .nil))))))) (.var 1)))
  .skip))
  .skip)
 (.seq (.asg 3 (.ix (.lit (.str [97, 98, 99, 100, 101, 102, 103, 104, 105, 106, 107, 108, 109, 110, 111, 112, 113, 114, 115, 116, 117, 118, 119, 120, 121, 122])) (.bin .mod (.bin .add (.var 1) (.ix (.var 0) (.lit (.str [116, 117, 114, 110])))) (.lit (.int 26)))))
 (.seq (.ret (.bin .add (.bin .add (.bin .mul (.lit (.str [113])) (.ix (.var 0) (.lit (.str [112, 108, 97, 99, 101])))) (.var 3)) (.bin .mul (.lit (.str [113])) (.bin .sub (.bin .sub (.ix (.var 0) (.lit (.str [115, 105, 122, 101]))) (.ix (.var 0) (.lit (.str [112, 108, 97, 99, 101])))) (.lit (.int 1))))))
 .skip))), false⟩
def d_law_kind : Def := ⟨[95, 108, 97, 119, 95, 107, 105, 110, 100], [[95, 108, 97, 119, 95, 115], [95, 108, 97, 119, 95, 100, 101, 101, 112], [95, 108, 97, 119, 95, 108, 101, 116, 116, 101, 114, 115]], [[95, 108, 97, 119, 95, 115], [95, 108, 97, 119, 95, 100, 101, 101, 112], [95, 108, 97, 119, 95, 108, 101, 116, 116, 101, 114, 115], [95, 108, 97, 119, 95, 107]],
 (.seq (.ret (.fn .tuple (.cons (.lc [3] (.nm 3) (.rng1 (.bin .add (.lit (.int 1)) (.call 9 (.cons (.var 0) (.cons (.lit (.int 3)) .nil))))) (.lit (.bl true)) (.call 12 (.cons (.var 0) (.cons (.var 1) (.cons (.var 2) .nil))))) .nil)))
 .skip), false⟩
def d_law_choice : Def := ⟨[95, 108, 97, 119, 95, 99, 104, 111, 105, 99, 101], [[95, 108, 97, 119, 95, 115], [95, 108, 97, 119, 95, 100, 101, 101, 112], [95, 108, 97, 119, 95, 108, 101, 116, 116, 101, 114, 115]], [[95, 108, 97, 119, 95, 115], [95, 108, 97, 119, 95, 100, 101, 101, 112], [95, 108, 97, 119, 95, 108, 101, 116, 116, 101, 114, 115], [95, 108, 97, 119, 95, 119, 97, 121]],
 (.seq (.asg 3 (.call 9 (.cons (.var 0) (.cons (.lit (.int 7)) .nil))))
 (.seq (.ite (.and (.cmp .eq (.var 3) (.lit (.int 6))) (.cmp .gt (.fn .len (.cons (.var 2) .nil)) (.lit (.int 0))))
  (.seq (.ret (.tup (.cons (.lit (.str [108, 101, 116, 116, 101, 114])) (.cons (.ix (.var 2) (.call 9 (.cons (.var 0) (.cons (.fn .len (.cons (.var 2) .nil)) .nil)))) .nil))))
  .skip)
  .skip)
 (.seq (.ite (.and (.cmp .gt (.var 1) (.lit (.int 0))) (.chain .le .le (.lit (.int 2)) (.var 3) (.lit (.int 3))))
  (.seq (.ret (.tup (.cons (.ix (.lst (.cons (.lit (.str [114, 111, 119])) (.cons (.lit (.str [98, 111, 111, 107])) .nil))) (.bin .sub (.var 3) (.lit (.int 2)))) (.cons (.call 11 (.cons (.var 0) (.cons (.bin .sub (.var 1) (.lit (.int 1))) (.cons (.var 2) .nil)))) .nil))))
  .skip)
  .skip)
 (.seq (.ite (.and (.cmp .gt (.var 1) (.lit (.int 0))) (.cmp .ge (.var 3) (.lit (.int 4))))
  (.seq (.ret (.tup (.cons (.lit (.str [115, 104, 97, 112, 101])) (.cons (.call 13 (.cons (.var 0) (.cons (.var 1) (.cons (.var 2) .nil)))) .nil))))
  .skip)
  .skip)
 (.seq (.ret (.ix (.lst (.cons (.tup (.cons (.lit (.str [110, 117, 109, 98, 101, 114])) .nil)) (.cons (.tup (.cons (.lit (.str [116, 101, 120, 116])) .nil)) .nil))) (.bin .mod (.var 3) (.lit (.int 2)))))
 .skip))))), false⟩
def d_law_fields : Def := ⟨[95, 108, 97, 119, 95, 102, 105, 101, 108, 100, 115], [[95, 108, 97, 119, 95, 115], [95, 108, 97, 119, 95, 100, 101, 101, 112], [95, 108, 97, 119, 95, 108, 101, 116, 116, 101, 114, 115]], [[95, 108, 97, 119, 95, 115], [95, 108, 97, 119, 95, 100, 101, 101, 112], [95, 108, 97, 119, 95, 108, 101, 116, 116, 101, 114, 115], [95, 108, 97, 119, 95, 119, 111, 114, 100, 115], [95, 108, 97, 119, 95, 107], [95, 108, 97, 119, 95, 119, 111, 114, 100, 95, 104, 101, 114, 101]],
 (.seq (.asg 3 (.fn .ssort (.cons (.lc [4] (.nm 4) (.rng1 (.bin .add (.lit (.int 1)) (.call 9 (.cons (.var 0) (.cons (.lit (.int 2)) .nil))))) (.lit (.bl true)) (.call 10 (.cons (.var 0) (.cons (.call 9 (.cons (.var 0) (.cons (.lit (.int 3)) .nil))) .nil)))) .nil)))
 (.seq (.ret (.fn .tuple (.cons (.lc [5] (.nm 5) (.var 3) (.lit (.bl true)) (.tup (.cons (.var 5) (.cons (.call 11 (.cons (.var 0) (.cons (.bin .sub (.var 1) (.lit (.int 1))) (.cons (.var 2) .nil)))) .nil)))) .nil)))
 .skip)), false⟩
def d_law_bounds : Def := ⟨[95, 108, 97, 119, 95, 98, 111, 117, 110, 100, 115], [[95, 108, 97, 119, 95, 115], [95, 108, 97, 119, 95, 109, 111, 115, 116]], [[95, 108, 97, 119, 95, 115], [95, 108, 97, 119, 95, 109, 111, 115, 116], [95, 108, 97, 119, 95, 98, 111, 117, 110, 100, 115, 95, 104, 101, 114, 101], [95, 108, 97, 119, 95, 107]],
 (.seq (.asg 2 (.dnew .nil))
 (.seq (.for_ (.nm 3) (.rng1 (.call 9 (.cons (.var 0) (.cons (.bin .add (.var 1) (.lit (.int 1))) .nil))))
  (.seq (.put (.var 2) (.mt .upper (.call 10 (.cons (.var 0) (.cons (.var 3) .nil))) .nil) (.call 11 (.cons (.var 0) (.cons (.lit (.int 1)) (.cons (.lst .nil) .nil)))))
  .skip))
 (.seq (.frz 2)
 (.seq (.ret (.var 2))
 .skip)))), false⟩
def d_law_head_of : Def := ⟨[95, 108, 97, 119, 95, 104, 101, 97, 100, 95, 111, 102], [[95, 108, 97, 119, 95, 99, 104, 111, 105, 99, 101, 95, 104, 101, 114, 101]], [[95, 108, 97, 119, 95, 99, 104, 111, 105, 99, 101, 95, 104, 101, 114, 101], [95, 108, 97, 119, 95, 112, 97, 105, 114]],
 (.seq (.ite (.cmp .eq (.ix (.var 0) (.lit (.int 0))) (.lit (.str [115, 104, 97, 112, 101])))
  (.seq (.ret (.bin .add (.lit (.str [115, 104, 97, 112, 101, 32])) (.mt .join (.lit (.str [32])) (.cons (.lc [1] (.nm 1) (.ix (.var 0) (.lit (.int 1))) (.lit (.bl true)) (.ix (.var 1) (.lit (.int 0)))) .nil))))
  .skip)
  .skip)
 (.seq (.ret (.ix (.var 0) (.lit (.int 0))))
 .skip)), false⟩
def d_law_heads_of : Def := ⟨[95, 108, 97, 119, 95, 104, 101, 97, 100, 115, 95, 111, 102], [[95, 108, 97, 119, 95, 99, 104, 111, 105, 99, 101, 95, 104, 101, 114, 101], [95, 108, 97, 119, 95, 98, 111, 117, 110, 100, 115, 95, 104, 101, 114, 101]], [[95, 108, 97, 119, 95, 99, 104, 111, 105, 99, 101, 95, 104, 101, 114, 101], [95, 108, 97, 119, 95, 98, 111, 117, 110, 100, 115, 95, 104, 101, 114, 101], [95, 108, 97, 119, 95, 111, 110, 101]],
 (.seq (.ite (.cmp .eq (.ix (.var 0) (.lit (.int 0))) (.lit (.str [99, 117, 116])))
  (.seq (.ret (.ix (.var 0) (.lit (.int 2))))
  .skip)
  .skip)
 (.seq (.ret (.fn .tuple (.cons (.fn .ssort (.cons (.lc [2] (.nm 2) (.ix (.var 1) (.ix (.var 0) (.lit (.int 1)))) (.lit (.bl true)) (.call 15 (.cons (.var 2) .nil))) .nil)) .nil)))
 .skip)), false⟩
def d_law_answers : Def := ⟨[95, 108, 97, 119, 95, 97, 110, 115, 119, 101, 114, 115], [[95, 108, 97, 119, 95, 104, 101, 97, 100], [95, 108, 97, 119, 95, 97, 115, 107, 95, 104, 101, 114, 101]], [[95, 108, 97, 119, 95, 104, 101, 97, 100], [95, 108, 97, 119, 95, 97, 115, 107, 95, 104, 101, 114, 101]],
 (.seq (.ite (.cmp .eq (.ix (.var 1) (.lit (.int 0))) (.lit (.str [105, 115])))
  (.seq (.ret (.or (.cmp .eq (.var 0) (.ix (.var 1) (.lit (.int 1)))) (.and (.cmp .eq (.ix (.var 1) (.lit (.int 1))) (.lit (.str [115, 104, 97, 112, 101]))) (.mt .startswith (.var 0) (.cons (.lit (.str [115, 104, 97, 112, 101, 32])) .nil)))))
  .skip)
  .skip)
 (.seq (.ret (.and (.mt .startswith (.var 0) (.cons (.lit (.str [115, 104, 97, 112, 101, 32])) .nil)) (.cmp .isin (.ix (.var 1) (.lit (.int 1))) (.sl (.mt .split (.var 0) (.cons (.lit (.str [32])) .nil)) (.lit (.int 1)) .nil))))
 .skip)), false⟩
def d_law_side : Def := ⟨[95, 108, 97, 119, 95, 115, 105, 100, 101], [[95, 108, 97, 119, 95, 107, 105, 110, 100, 95, 104, 101, 114, 101], [95, 108, 97, 119, 95, 98, 111, 117, 110, 100, 115, 95, 104, 101, 114, 101], [95, 108, 97, 119, 95, 97, 115, 107, 95, 104, 101, 114, 101], [95, 108, 97, 119, 95, 121, 101, 115]], [[95, 108, 97, 119, 95, 107, 105, 110, 100, 95, 104, 101, 114, 101], [95, 108, 97, 119, 95, 98, 111, 117, 110, 100, 115, 95, 104, 101, 114, 101], [95, 108, 97, 119, 95, 97, 115, 107, 95, 104, 101, 114, 101], [95, 108, 97, 119, 95, 121, 101, 115], [95, 108, 97, 119, 95, 102, 111, 117, 110, 100], [95, 108, 97, 119, 95, 99, 104, 111, 105, 99, 101, 95, 104, 101, 114, 101], [95, 108, 97, 119, 95, 101, 118, 101, 114, 121], [95, 108, 97, 119, 95, 104, 101, 97, 100, 115], [95, 108, 97, 119, 95, 104, 101, 97, 100]],
 (.seq (.asg 4 (.new .nil))
 (.seq (.for_ (.nm 5) (.var 0)
  (.seq (.ite (.or (.cmp .eq (.ix (.var 5) (.lit (.int 0))) (.lit (.str [108, 101, 116, 116, 101, 114]))) (.cmp .eq (.ix (.var 5) (.lit (.int 0))) (.lit (.str [99, 117, 116]))))
   (.seq (.asg 6 (.call 16 (.cons (.tup (.cons (.lit (.str [108, 101, 116, 116, 101, 114])) (.cons (.ix (.var 5) (.lit (.int 1))) .nil))) (.cons (.var 1) .nil))))
   (.seq (.asg 7 (.fn .tuple (.cons (.lc [8] (.nm 8) (.call 16 (.cons (.var 5) (.cons (.var 1) .nil))) (.cmp .eq (.call 17 (.cons (.var 8) (.cons (.var 2) .nil))) (.var 3)) (.var 8)) .nil)))
   (.seq (.ite (.cmp .eq (.var 7) (.var 6))
    (.seq (.expr (.mt .append (.var 4) (.cons (.tup (.cons (.lit (.str [108, 101, 116, 116, 101, 114])) (.cons (.ix (.var 5) (.lit (.int 1))) .nil))) .nil)))
    .skip)
    (.seq (.ite (.cmp .gt (.fn .len (.cons (.var 7) .nil)) (.lit (.int 0)))
     (.seq (.expr (.mt .append (.var 4) (.cons (.tup (.cons (.lit (.str [99, 117, 116])) (.cons (.ix (.var 5) (.lit (.int 1))) (.cons (.var 7) .nil)))) .nil)))
     .skip)
     .skip)
    .skip))
   .skip)))
   (.seq (.ite (.cmp .eq (.call 17 (.cons (.call 15 (.cons (.var 5) .nil)) (.cons (.var 2) .nil))) (.var 3))
    (.seq (.expr (.mt .append (.var 4) (.cons (.var 5) .nil)))
    .skip)
    .skip)
   .skip))
  .skip))
 (.seq (.ret (.fn .tuple (.cons (.var 4) .nil)))
 .skip))), false⟩
def d_law_told : Def := ⟨[95, 108, 97, 119, 95, 116, 111, 108, 100], [[95, 108, 97, 119, 95, 107, 105, 110, 100, 95, 104, 101, 114, 101]], [[95, 108, 97, 119, 95, 107, 105, 110, 100, 95, 104, 101, 114, 101], [95, 108, 97, 119, 95, 99, 104, 111, 105, 99, 101, 95, 104, 101, 114, 101]],
 (.seq (.ret (.mt .join (.lit (.str [32, 124, 32])) (.cons (.lc [1] (.nm 1) (.var 0) (.lit (.bl true)) (.call 20 (.cons (.var 1) .nil))) .nil)))
 .skip), false⟩
def d_law_told_choice : Def := ⟨[95, 108, 97, 119, 95, 116, 111, 108, 100, 95, 99, 104, 111, 105, 99, 101], [[95, 108, 97, 119, 95, 99, 104, 111, 105, 99, 101, 95, 104, 101, 114, 101]], [[95, 108, 97, 119, 95, 99, 104, 111, 105, 99, 101, 95, 104, 101, 114, 101], [95, 108, 97, 119, 95, 112, 97, 105, 114]],
 (.seq (.ite (.or (.cmp .eq (.ix (.var 0) (.lit (.int 0))) (.lit (.str [114, 111, 119]))) (.cmp .eq (.ix (.var 0) (.lit (.int 0))) (.lit (.str [98, 111, 111, 107]))))
  (.seq (.ret (.bin .add (.bin .add (.bin .add (.ix (.var 0) (.lit (.int 0))) (.lit (.str [40]))) (.call 19 (.cons (.ix (.var 0) (.lit (.int 1))) .nil))) (.lit (.str [41]))))
  .skip)
  .skip)
 (.seq (.ite (.cmp .eq (.ix (.var 0) (.lit (.int 0))) (.lit (.str [115, 104, 97, 112, 101])))
  (.seq (.ret (.bin .add (.bin .add (.lit (.str [123])) (.mt .join (.lit (.str [44, 32])) (.cons (.lc [1] (.nm 1) (.ix (.var 0) (.lit (.int 1))) (.lit (.bl true)) (.bin .add (.bin .add (.ix (.var 1) (.lit (.int 0))) (.lit (.str [58, 32]))) (.call 19 (.cons (.ix (.var 1) (.lit (.int 1))) .nil)))) .nil))) (.lit (.str [125]))))
  .skip)
  .skip)
 (.seq (.ite (.cmp .eq (.ix (.var 0) (.lit (.int 0))) (.lit (.str [108, 101, 116, 116, 101, 114])))
  (.seq (.ret (.ix (.var 0) (.lit (.int 1))))
  .skip)
  .skip)
 (.seq (.ite (.cmp .eq (.ix (.var 0) (.lit (.int 0))) (.lit (.str [99, 117, 116])))
  (.seq (.ret (.bin .add (.bin .add (.bin .add (.ix (.var 0) (.lit (.int 1))) (.lit (.str [40]))) (.mt .join (.lit (.str [44, 32])) (.cons (.fn .list (.cons (.ix (.var 0) (.lit (.int 2))) .nil)) .nil))) (.lit (.str [41]))))
  .skip)
  .skip)
 (.seq (.ite (.or (.cmp .eq (.ix (.var 0) (.lit (.int 0))) (.lit (.str [115, 111, 109, 101]))) (.cmp .eq (.ix (.var 0) (.lit (.int 0))) (.lit (.str [119, 105, 116, 104]))))
  (.seq (.ret (.bin .add (.bin .add (.ix (.var 0) (.lit (.int 0))) (.lit (.str [32]))) (.ix (.var 0) (.lit (.int 1)))))
  .skip)
  .skip)
 (.seq (.ret (.ix (.var 0) (.lit (.int 0))))
 .skip)))))), false⟩
def d_law_join : Def := ⟨[95, 108, 97, 119, 95, 106, 111, 105, 110], [[95, 108, 97, 119, 95, 107, 105, 110, 100, 115]], [[95, 108, 97, 119, 95, 107, 105, 110, 100, 115], [95, 108, 97, 119, 95, 114, 111, 119, 115], [95, 108, 97, 119, 95, 107, 105, 110, 100, 95, 104, 101, 114, 101], [95, 108, 97, 119, 95, 99, 104, 111, 105, 99, 101, 95, 104, 101, 114, 101], [95, 108, 97, 119, 95, 114, 111, 119]],
 (.seq (.asg 1 (.new .nil))
 (.seq (.for_ (.nm 2) (.var 0)
  (.seq (.for_ (.nm 3) (.var 2)
   (.seq (.ite (.cmp .notin (.tup (.cons (.call 20 (.cons (.var 3) .nil)) (.cons (.var 3) .nil))) (.var 1))
    (.seq (.expr (.mt .append (.var 1) (.cons (.tup (.cons (.call 20 (.cons (.var 3) .nil)) (.cons (.var 3) .nil))) .nil)))
    .skip)
    .skip)
   .skip))
  .skip))
 (.seq (.ret (.fn .tuple (.cons (.lc [4] (.nm 4) (.sortK (.var 1)) (.lit (.bl true)) (.ix (.var 4) (.lit (.int 1)))) .nil)))
 .skip))), true⟩
def d_law_cut : Def := ⟨[95, 108, 97, 119, 95, 99, 117, 116], [[95, 108, 97, 119, 95, 115], [95, 108, 97, 119, 95, 98, 111, 117, 110, 100, 115, 95, 104, 101, 114, 101]], [[95, 108, 97, 119, 95, 115], [95, 108, 97, 119, 95, 98, 111, 117, 110, 100, 115, 95, 104, 101, 114, 101], [95, 108, 97, 119, 95, 108, 101, 116, 116, 101, 114], [95, 108, 97, 119, 95, 104, 101, 97, 100, 115], [95, 108, 97, 119, 95, 109, 97, 110, 121], [95, 108, 97, 119, 95, 102, 105, 114, 115, 116]],
 (.seq (.asg 2 (.ix (.fn .list (.cons (.var 1) .nil)) (.call 9 (.cons (.var 0) (.cons (.fn .len (.cons (.var 1) .nil)) .nil)))))
 (.seq (.asg 3 (.call 16 (.cons (.tup (.cons (.lit (.str [108, 101, 116, 116, 101, 114])) (.cons (.var 2) .nil))) (.cons (.var 1) .nil))))
 (.seq (.ite (.cmp .lt (.fn .len (.cons (.var 3) .nil)) (.lit (.int 2)))
  (.seq (.ret (.tup (.cons (.lit (.str [108, 101, 116, 116, 101, 114])) (.cons (.var 2) .nil))))
  .skip)
  .skip)
 (.seq (.asg 4 (.bin .add (.lit (.int 1)) (.call 9 (.cons (.var 0) (.cons (.bin .sub (.fn .len (.cons (.var 3) .nil)) (.lit (.int 1))) .nil)))))
 (.seq (.asg 5 (.call 9 (.cons (.var 0) (.cons (.bin .add (.bin .sub (.fn .len (.cons (.var 3) .nil)) (.var 4)) (.lit (.int 1))) .nil))))
 (.seq (.ret (.tup (.cons (.lit (.str [99, 117, 116])) (.cons (.var 2) (.cons (.sl (.var 3) (.var 5) (.bin .add (.var 5) (.var 4))) .nil)))))
 .skip)))))), false⟩
def d_law_any_kind : Def := ⟨[95, 108, 97, 119, 95, 97, 110, 121, 95, 107, 105, 110, 100], [[95, 108, 97, 119, 95, 115], [95, 108, 97, 119, 95, 100, 101, 101, 112], [95, 108, 97, 119, 95, 98, 111, 117, 110, 100, 115, 95, 104, 101, 114, 101]], [[95, 108, 97, 119, 95, 115], [95, 108, 97, 119, 95, 100, 101, 101, 112], [95, 108, 97, 119, 95, 98, 111, 117, 110, 100, 115, 95, 104, 101, 114, 101], [95, 108, 97, 119, 95, 107, 105, 110, 100, 95, 104, 101, 114, 101]],
 (.seq (.asg 3 (.call 11 (.cons (.var 0) (.cons (.var 1) (.cons (.fn .list (.cons (.var 2) .nil)) .nil)))))
 (.seq (.ite (.and (.cmp .gt (.fn .len (.cons (.var 2) .nil)) (.lit (.int 0))) (.cmp .eq (.call 9 (.cons (.var 0) (.cons (.lit (.int 2)) .nil))) (.lit (.int 1))))
  (.seq (.asg 3 (.bin .add (.var 3) (.tup (.cons (.call 22 (.cons (.var 0) (.cons (.var 2) .nil))) .nil))))
  .skip)
  .skip)
 (.seq (.ret (.var 3))
 .skip))), false⟩
def d_law_ask : Def := ⟨[95, 108, 97, 119, 95, 97, 115, 107], [[95, 108, 97, 119, 95, 115]], [[95, 108, 97, 119, 95, 115]],
 (.seq (.ite (.cmp .eq (.call 9 (.cons (.var 0) (.cons (.lit (.int 3)) .nil))) (.lit (.int 2)))
  (.seq (.ret (.tup (.cons (.lit (.str [104, 97, 115])) (.cons (.call 10 (.cons (.var 0) (.cons (.call 9 (.cons (.var 0) (.cons (.lit (.int 3)) .nil))) .nil))) .nil))))
  .skip)
  .skip)
 (.seq (.ret (.tup (.cons (.lit (.str [105, 115])) (.cons (.ix (.lst (.cons (.lit (.str [110, 117, 109, 98, 101, 114])) (.cons (.lit (.str [116, 101, 120, 116])) (.cons (.lit (.str [114, 111, 119])) (.cons (.lit (.str [98, 111, 111, 107])) (.cons (.lit (.str [115, 104, 97, 112, 101])) .nil)))))) (.call 9 (.cons (.var 0) (.cons (.lit (.int 5)) .nil)))) .nil))))
 .skip)), false⟩
def d_law : Def := ⟨[108, 97, 119], [[95, 108, 97, 119, 95, 115, 99, 114, 105, 112, 116]], [[95, 108, 97, 119, 95, 115, 99, 114, 105, 112, 116], [95, 108, 97, 119, 95, 115], [95, 108, 97, 119, 95, 98, 111, 117, 110, 100, 115, 95, 104, 101, 114, 101], [95, 108, 97, 119, 95, 107, 105, 110, 100, 95, 104, 101, 114, 101], [95, 108, 97, 119, 95, 97, 115, 107, 95, 104, 101, 114, 101], [95, 108, 97, 119, 95, 102, 111, 117, 110, 100], [95, 108, 97, 119, 95, 100, 117, 101], [95, 108, 97, 119, 95, 121, 101, 115], [95, 108, 97, 119, 95, 115, 104, 97, 112, 101, 115]],
 (.seq (.asg 1 (.call 8 (.cons (.var 0) .nil)))
 (.seq (.asg 2 (.call 14 (.cons (.var 1) (.cons (.lit (.int 2)) .nil))))
 (.seq (.asg 3 (.call 23 (.cons (.var 1) (.cons (.lit (.int 2)) (.cons (.var 2) .nil)))))
 (.seq (.asg 4 (.call 24 (.cons (.var 1) .nil)))
 (.seq (.asg 5 (.call 7 (.cons (.var 3) (.cons (.var 2) (.cons (.var 4) .nil)))))
 (.seq (.ite (.or (.not (.isi .tuple (.var 5))) (.cmp .ne (.fn .len (.cons (.var 5) .nil)) (.lit (.int 2))))
  (.seq (.ret (.lit (.bl false)))
  .skip)
  .skip)
 (.seq (.asg 6 (.lc [7] (.nm 7) (.lst (.cons (.lit (.bl true)) (.cons (.lit (.bl false)) .nil))) (.lit (.bl true)) (.call 21 (.cons (.lst (.cons (.call 18 (.cons (.var 3) (.cons (.var 2) (.cons (.var 4) (.cons (.var 7) .nil))))) .nil)) .nil))))
 (.seq (.ite (.or (.cmp .ne (.ix (.var 5) (.lit (.int 0))) (.ix (.var 6) (.lit (.int 0)))) (.cmp .ne (.ix (.var 5) (.lit (.int 1))) (.ix (.var 6) (.lit (.int 1)))))
  (.seq (.ret (.lit (.bl false)))
  .skip)
  .skip)
 (.seq (.asg 8 (.lst (.cons (.tup (.cons (.lit (.str [115, 104, 97, 112, 101])) (.cons (.tup (.cons (.tup (.cons (.lit (.str [97, 98])) (.cons (.tup (.cons (.tup (.cons (.lit (.str [110, 117, 109, 98, 101, 114])) .nil)) .nil)) .nil))) .nil)) .nil))) (.cons (.tup (.cons (.lit (.str [115, 104, 97, 112, 101])) (.cons (.tup (.cons (.tup (.cons (.lit (.str [115, 104, 97, 112, 101, 115])) (.cons (.tup (.cons (.tup (.cons (.lit (.str [116, 101, 120, 116])) .nil)) .nil)) .nil))) .nil)) .nil))) .nil))))
 (.seq (.for_ (.nm 4) (.lst (.cons (.tup (.cons (.lit (.str [104, 97, 115])) (.cons (.ix (.lst (.cons (.lit (.str [97])) (.cons (.lit (.str [98])) (.cons (.lit (.str [115, 104, 97, 112, 101])) (.cons (.lit (.str [97, 98])) (.cons (.lit (.str [104, 97, 112])) .nil)))))) (.call 9 (.cons (.var 1) (.cons (.lit (.int 5)) .nil)))) .nil))) (.cons (.tup (.cons (.lit (.str [105, 115])) (.cons (.lit (.str [115, 104, 97, 112, 101])) .nil))) .nil)))
  (.seq (.asg 6 (.lc [7] (.nm 7) (.lst (.cons (.lit (.bl true)) (.cons (.lit (.bl false)) .nil))) (.lit (.bl true)) (.call 21 (.cons (.lst (.cons (.call 18 (.cons (.var 8) (.cons (.dsp .nil) (.cons (.var 4) (.cons (.var 7) .nil))))) .nil)) .nil))))
  (.seq (.ite (.cmp .ne (.call 7 (.cons (.fn .tuple (.cons (.var 8) .nil)) (.cons (.dsp .nil) (.cons (.var 4) .nil)))) (.tup (.cons (.ix (.var 6) (.lit (.int 0))) (.cons (.ix (.var 6) (.lit (.int 1))) .nil))))
   (.seq (.ret (.lit (.bl false)))
   .skip)
   .skip)
  .skip)))
 (.seq (.ret (.lit (.bl true)))
 .skip))))))))))), false⟩
def prg : Prg := ⟨[d_shown_kind, d_shown_choice, d_joined, d_head_of_choice, d_heads_of, d_fits_ask, d_cut_to, d_narrowed, d_law_begun, d_law_taken, d_law_word, d_law_kind, d_law_choice, d_law_fields, d_law_bounds, d_law_head_of, d_law_heads_of, d_law_answers, d_law_side, d_law_told, d_law_told_choice, d_law_join, d_law_cut, d_law_any_kind, d_law_ask, d_law], []⟩
end Mi
namespace Mi
local macro_rules | `(tactic| array_mem_dec) => `(tactic| repeat (first | (with_reducible refine t_seq ?_) | (with_reducible refine t_skip ?_) | (with_reducible refine t_asg ?_) | (with_reducible refine t_ret ?_) | (with_reducible refine t_expr ?_) | (with_reducible refine t_put ?_) | (with_reducible refine t_ite ?_) | (with_reducible refine t_for ?_) | (with_reducible refine t_asgT ?_) | ((with_reducible apply v_var); rfl) | ((with_reducible apply b_var); rfl) | ((with_reducible apply i_var); rfl) | (with_reducible refine v_lit ?_) | (with_reducible refine v_ix ?_) | (with_reducible refine v_bin ?_) | (with_reducible refine v_cmp ?_) | (with_reducible refine v_call ?_) | (with_reducible refine v_tup ?_) | (with_reducible refine v_lst ?_) | (with_reducible refine v_new ?_) | (with_reducible refine v_fn ?_) | (with_reducible refine v_isi ?_) | (with_reducible refine v_mt ?_) | (with_reducible refine v_and ?_) | (with_reducible refine v_or ?_) | (with_reducible refine v_not ?_) | (with_reducible refine v_ite ?_) | (with_reducible refine v_neg ?_) | (with_reducible refine v_chain ?_) | (with_reducible refine v_isN ?_) | (with_reducible refine v_isB ?_) | (with_reducible refine v_lc ?_) | (with_reducible refine a_cons ?_) | (with_reducible refine a_nil ?_) | (with_reducible refine b_cmp ?_) | (with_reducible refine b_and ?_) | (with_reducible refine b_or ?_) | (with_reducible refine b_not ?_) | (with_reducible refine b_call ?_) | (with_reducible refine b_isi ?_) | (with_reducible refine b_lit ?_) | (with_reducible refine b_isN ?_) | (with_reducible refine b_isB ?_) | (with_reducible refine b_chain ?_) | (with_reducible refine b_mt ?_) | (with_reducible refine b_fn ?_) | (with_reducible refine i_rng ?_) | (with_reducible refine i_ix ?_) | (with_reducible refine i_fn ?_) | (with_reducible refine i_call ?_) | (with_reducible refine i_bin ?_) | (with_reducible refine i_lst ?_) | (with_reducible refine i_sortK ?_) | (with_reducible refine i_tup ?_) | (with_reducible refine i_lc ?_) | (with_reducible refine v_dcpy ?_) | (with_reducible refine v_lnew ?_) | refine ⟨Nat.le_of_ble_eq_true rfl, ?_⟩ | refine ⟨_, rfl, ?_⟩))
/-! the draws -/
structure Cst where
  size : Int
  place : Int
  turn : Int
  odd : Int
  talk : Int
  fns : Val
structure Dr where
  cells : List Int
  at_ : Int
  rest : Int
  seed : Int
  c : Cst
def DK : List Txt := [[99, 101, 108, 108, 115], [97, 116], [115, 105, 122, 101], [112, 108, 97, 99, 101], [116, 117, 114, 110], [114, 101, 115, 116], [102, 117, 110, 99, 116, 105, 111, 110, 115], [111, 100, 100], [116, 97, 108, 107], [115, 101, 101, 100]]
def Dr.xs (d : Dr) : List Val := [.lst (d.cells.map .int), .int d.at_, .int d.c.size, .int d.c.place, .int d.c.turn, .int d.rest, d.c.fns, .int d.c.odd, .int d.c.talk, .int d.seed]
def Dr.ob (d : Dr) : Ob := .dct DK d.xs
def Dw (c : Cst) (st : Store) : Prop := ∃ d : Dr, st[0]? = some d.ob ∧ 0 ≤ d.at_ ∧ d.c = c
def Fr (st st' : Store) : Prop := st.length ≤ st'.length ∧ ∀ n, 0 < n → n < st.length → st'[n]? = st[n]?
theorem Fr.refl {st : Store} : Fr st st := ⟨Nat.le_refl _, fun _ _ _ => rfl⟩
theorem Fr.trans {a b c : Store} (h : Fr a b) (k : Fr b c) : Fr a c := ⟨Nat.le_trans h.1 k.1, fun n h0 hn => (k.2 n h0 (Nat.lt_of_lt_of_le hn h.1)).trans (h.2 n h0 hn)⟩
theorem Fr.set {st : Store} {o : Ob} : Fr st (st.set 0 o) := ⟨by simp, fun n h0 hn => by rw [List.getElem?_set_ne (by omega)]⟩
theorem Fr.push {st : Store} {o : Ob} : Fr st (st ++ [o]) := ⟨by simp, fun n h0 hn => by rw [List.getElem?_append_left hn]⟩
theorem ix_dr {st : Store} {d : Dr} {k : Txt} {v : Val} (h : st[0]? = some d.ob) (e : look k DK d.xs = some v) : ixV st (.loc 0) (.str k) = some v := by
  simp only [ixV, h, Dr.ob, keyOf, Option.bind, e]
theorem put_dr {st : Store} {d : Dr} {k : Txt} {v : Val} {xs : List Val} (h : st[0]? = some d.ob) (e : putD k v DK d.xs = (DK, xs)) : putV (.loc 0) (.str k) v st = some (st.set 0 (.dct DK xs)) := by
  simp only [putV, h, Dr.ob, keyOf, Option.bind, e]
  rw [if_pos (by show (10 : Nat) < PySem.sizeLine; decide)]
theorem set_get {st : Store} {o o' : Ob} (h : st[0]? = some o) : (st.set 0 o')[0]? = some o' := List.getElem?_set_self (List.getElem?_eq_some_iff.mp h).1
theorem at_cells {ns : List Int} {a : Int} (h1 : 0 ≤ a) (h2 : a < ns.length) : ∃ k : Int, L2.atI (ns.map Val.int) a = some (.int k) := by
  obtain ⟨n, rfl⟩ := Int.eq_ofNat_of_zero_le h1
  have hn : n < ns.length := by omega
  refine ⟨ns[n], ?_⟩
  simp [L2.atI, L2.ixN, hn]
theorem taken_ok {p : Prg} {n : Nat} {st : Store} {c : Cst} {m : Int} (hp : p.fns[9]? = some d_law_taken) (h : Dw c st) (hm : 0 < m) (hm2 : m < 2 ^ 200) :
    Ret (callN p (n + 1) 9 [.loc 0, .int m] st) fun v st' => (∃ i, v = .int i ∧ 0 ≤ i ∧ i < m) ∧ Dw c st' ∧ Fr st st' := by
  obtain ⟨d, h0, ha, rfl⟩ := h
  -- the end: from the rest
  have tail : ∀ (st1 : Store) (d1 : Dr) (η : Env), st1[0]? = some d1.ob → 0 ≤ d1.at_ → d1.c = d.c → Fr st st1 → η = [some (.loc 0), some (.int m), none] →
      FlP (exec ⟨callN p n, p.gs⟩ (.seq (.asg 2 (.bin .mod (.ix (.var 0) (.lit (.str [114, 101, 115, 116]))) (.var 1))) (.seq (.put (.var 0) (.lit (.str [114, 101, 115, 116])) (.bin .fdiv (.ix (.var 0) (.lit (.str [114, 101, 115, 116]))) (.var 1))) (.seq (.ret (.var 2)) .skip))) η st1)
        { nx := fun _ st' => (∃ i, Val.non = .int i ∧ 0 ≤ i ∧ i < m) ∧ Dw d.c st' ∧ Fr st st', rt := fun v st' => (∃ i, v = .int i ∧ 0 ≤ i ∧ i < m) ∧ Dw d.c st' ∧ Fr st st' } := by
    intro st1 d1 η h1 ha1 hc hf hη
    subst hη
    array_mem_dec
    refine ⟨_, ix_dr h1 rfl, ?_⟩
    array_mem_dec
    refine ⟨_, bin_mod hm, ?_⟩
    array_mem_dec
    refine ⟨_, ix_dr h1 rfl, ?_⟩
    array_mem_dec
    refine ⟨_, bin_fdiv hm hm2, ?_⟩
    array_mem_dec
    refine ⟨_, put_dr h1 rfl, ?_⟩
    array_mem_dec
    exact ⟨⟨_, rfl, Int.emod_nonneg _ (by omega), Int.emod_lt_of_pos _ hm⟩, ⟨{ d1 with rest := d1.rest / m }, set_get h1, ha1, hc⟩, hf.trans Fr.set⟩
  refine call_of hp rfl ?_
  simp only [d_law_taken, List.map_cons, List.map_nil, List.length_cons, List.length_nil, List.cons_append, List.nil_append, Nat.reduceAdd, Nat.reduceSub, Nat.zero_add, Nat.add_zero, Nat.sub_self, Nat.sub_zero, List.replicate]
  array_mem_dec
  refine ⟨_, ix_dr h0 rfl, ?_⟩
  array_mem_dec
  refine ⟨fun e => ?_, fun e => t_skip (tail st d _ h0 ha rfl Fr.refl rfl)⟩
  -- a new number
  array_mem_dec
  refine ⟨_, ix_dr h0 rfl, ?_⟩
  array_mem_dec
  refine ⟨_, put_dr h0 rfl, ?_⟩
  have h1 : (st.set 0 (Dr.ob { d with at_ := d.at_ + 1 }))[0]? = some (Dr.ob { d with at_ := d.at_ + 1 }) := set_get h0
  array_mem_dec
  refine ⟨_, ix_dr h1 rfl, ?_⟩
  array_mem_dec
  refine ⟨_, ix_dr h1 rfl, ?_⟩
  array_mem_dec
  refine ⟨fun g => ?_, fun g => ?_⟩
  · -- off the seed
    array_mem_dec
    refine ⟨_, ix_dr h1 rfl, ?_⟩
    array_mem_dec
    refine ⟨_, bin_mul (by decide), ?_⟩
    array_mem_dec
    refine ⟨_, put_dr h1 rfl, ?_⟩
    have h2 := set_get (o' := Dr.ob { d with at_ := d.at_ + 1, seed := (d.seed * 48271 + 11) % 2147483647 }) h1
    array_mem_dec
    refine ⟨_, ix_dr h2 rfl, ?_⟩
    array_mem_dec
    have hr : Dw d.c ((st.set 0 (Dr.ob { d with at_ := d.at_ + 1 })).set 0 (Dr.ob { d with at_ := d.at_ + 1, seed := (d.seed * 48271 + 11) % 2147483647 })) := ⟨_, h2, by show 0 ≤ d.at_ + 1; omega, rfl⟩
    have s1 : 0 ≤ (d.seed * 48271 + 11) % 2147483647 := Int.emod_nonneg _ (by decide)
    have s2 : (d.seed * 48271 + 11) % 2147483647 < 2147483647 := Int.emod_lt_of_pos _ (by decide)
    refine ⟨fun k => ?_, fun k => ?_⟩
    · array_mem_dec
      refine ⟨_, bin_pow ⟨by decide, by decide, ?_, ?_⟩, ?_⟩
      · show -(2 ^ 63) < (d.seed * 48271 + 11) % 2147483647 / 64
        omega
      · show (d.seed * 48271 + 11) % 2147483647 / 64 < 2 ^ 63
        omega
      array_mem_dec
      refine ⟨_, bin_mod hm, ?_⟩
      exact ⟨⟨_, rfl, Int.emod_nonneg _ (by omega), Int.emod_lt_of_pos _ hm⟩, hr, Fr.set.trans Fr.set⟩
    · array_mem_dec
      refine ⟨_, bin_mod hm, ?_⟩
      exact ⟨⟨_, rfl, Int.emod_nonneg _ (by omega), Int.emod_lt_of_pos _ hm⟩, hr, Fr.set.trans Fr.set⟩
  · -- off the script
    have g2 : d.at_ + 1 ≤ d.cells.length := by
      have := of_decide_eq_false g
      simp at this
      omega
    obtain ⟨k, hk⟩ := at_cells (ns := d.cells) (a := d.at_ + 1 - 1) (by omega) (by omega)
    array_mem_dec
    refine ⟨_, ix_dr h1 rfl, ?_⟩
    array_mem_dec
    refine ⟨_, ix_dr h1 rfl, ?_⟩
    array_mem_dec
    refine ⟨_, hk, ?_⟩
    array_mem_dec
    refine ⟨fun l => ?_, fun l => ?_⟩
    · array_mem_dec
      refine ⟨_, ix_dr h1 rfl, ?_⟩
      array_mem_dec
      refine ⟨_, ix_dr h1 rfl, ?_⟩
      array_mem_dec
      refine ⟨_, hk, ?_⟩
      array_mem_dec
      refine ⟨_, bin_mod hm, ?_⟩
      exact ⟨⟨_, rfl, Int.emod_nonneg _ (by omega), Int.emod_lt_of_pos _ hm⟩, ⟨_, h1, by show 0 ≤ d.at_ + 1; omega, rfl⟩, Fr.set⟩
    · array_mem_dec
      refine ⟨_, ix_dr h1 rfl, ?_⟩
      array_mem_dec
      refine ⟨_, ix_dr h1 rfl, ?_⟩
      array_mem_dec
      refine ⟨_, hk, ?_⟩
      array_mem_dec
      refine ⟨_, put_dr h1 rfl, ?_⟩
      refine t_skip (tail _ { d with at_ := d.at_ + 1, rest := k } _ (set_get h1) (by show 0 ≤ d.at_ + 1; omega) rfl (Fr.set.trans Fr.set) rfl)
end Mi
namespace Mi
local macro_rules | `(tactic| array_mem_dec) => `(tactic| repeat (first | (with_reducible refine t_seq ?_) | (with_reducible refine t_skip ?_) | (with_reducible refine t_asg ?_) | (with_reducible refine t_ret ?_) | (with_reducible refine t_expr ?_) | (with_reducible refine t_put ?_) | (with_reducible refine t_ite ?_) | (with_reducible refine t_for ?_) | (with_reducible refine t_asgT ?_) | ((with_reducible apply v_var); rfl) | ((with_reducible apply b_var); rfl) | ((with_reducible apply i_var); rfl) | (with_reducible refine v_lit ?_) | (with_reducible refine v_ix ?_) | (with_reducible refine v_bin ?_) | (with_reducible refine v_cmp ?_) | (with_reducible refine v_call ?_) | (with_reducible refine v_tup ?_) | (with_reducible refine v_lst ?_) | (with_reducible refine v_new ?_) | (with_reducible refine v_fn ?_) | (with_reducible refine v_isi ?_) | (with_reducible refine v_mt ?_) | (with_reducible refine v_and ?_) | (with_reducible refine v_or ?_) | (with_reducible refine v_not ?_) | (with_reducible refine v_ite ?_) | (with_reducible refine v_neg ?_) | (with_reducible refine v_chain ?_) | (with_reducible refine v_isN ?_) | (with_reducible refine v_isB ?_) | (with_reducible refine v_lc ?_) | (with_reducible refine a_cons ?_) | (with_reducible refine a_nil ?_) | (with_reducible refine b_cmp ?_) | (with_reducible refine b_and ?_) | (with_reducible refine b_or ?_) | (with_reducible refine b_not ?_) | (with_reducible refine b_call ?_) | (with_reducible refine b_isi ?_) | (with_reducible refine b_lit ?_) | (with_reducible refine b_isN ?_) | (with_reducible refine b_isB ?_) | (with_reducible refine b_chain ?_) | (with_reducible refine b_mt ?_) | (with_reducible refine b_fn ?_) | (with_reducible refine i_rng ?_) | (with_reducible refine i_ix ?_) | (with_reducible refine i_fn ?_) | (with_reducible refine i_call ?_) | (with_reducible refine i_bin ?_) | (with_reducible refine i_lst ?_) | (with_reducible refine i_sortK ?_) | (with_reducible refine i_tup ?_) | (with_reducible refine i_lc ?_) | (with_reducible refine v_dcpy ?_) | (with_reducible refine v_lnew ?_) | refine ⟨Nat.le_of_ble_eq_true rfl, ?_⟩ | refine ⟨_, rfl, ?_⟩))
structure Cok (c : Cst) : Prop where
  s1 : 1 ≤ c.size
  s2 : c.size ≤ 8
  p1 : 0 ≤ c.place
  p2 : c.place < c.size
  t1 : 0 ≤ c.turn
  t2 : c.turn < 26
  k : c.talk = 0 ∨ c.talk = 1
  o : c.odd = 0
  f : c.fns = .lst []
theorem ints_all : ∀ ns : List Int, intsV (ns.map .int) = some ns
  | [] => rfl
  | n :: r => by simp only [List.map_cons, intsV, ints_all r, Option.map]
theorem begun_ok {p : Prg} {n : Nat} {ns : List Int} (hl : ns.length ≤ 63) (hp : p.fns[9]? = some d_law_taken) (hb : p.fns[8]? = some d_law_begun) :
    Ret (callN p (n + 2) 8 [.lst (ns.map .int)] []) fun v st' => v = .loc 0 ∧ ∃ c, Dw c st' ∧ Cok c := by
  refine call_of hb rfl ?_
  simp only [d_law_begun, List.map_cons, List.map_nil, List.length_cons, List.length_nil, List.cons_append, List.nil_append, Nat.reduceAdd, Nat.reduceSub, Nat.zero_add, Nat.add_zero, Nat.sub_self, Nat.sub_zero, List.replicate]
  array_mem_dec
  refine v_dnew2 (ks := DK.take 9) (xs := (Dr.xs ⟨ns, 0, 0, 0, ⟨1, 0, 0, 0, 0, .lst []⟩⟩).take 9) (D := (DK.take 9, (Dr.xs ⟨ns, 0, 0, 0, ⟨1, 0, 0, 0, 0, .lst []⟩⟩).take 9)) ?_
  array_mem_dec
  refine ⟨rfl, Nat.le_of_ble_eq_true rfl, rfl, ?_⟩
  array_mem_dec
  rw [ckN]
  refine lc_pure (fun _ => true) (fun x => match x with | .int i => .int (31 * (if i < 0 then -i else i)) | v => v) _ _ (fun x hx => ?_) ?_ ?_
  · obtain ⟨i, _, rfl⟩ := List.mem_map.mp hx
    refine ⟨_, rfl, b_lit ⟨rfl, rfl⟩, fun _ => ?_⟩
    array_mem_dec
    exact ⟨rfl, rfl⟩
  · simp
    exact Nat.le_trans hl (by decide)
  have fe : ([] : List Val) ++ List.map (fun x => match x with | .int i => .int (31 * (if i < 0 then -i else i)) | v => v) (List.filter (fun _ => true) (ns.map Val.int)) = (ns.map fun i => 31 * (if i < 0 then -i else i)).map .int := by
    rw [List.filter_eq_self.mpr (fun _ _ => rfl), List.map_map, List.map_map]; rfl
  rw [fe]
  array_mem_dec
  refine ⟨_, (by simp only [fnV, asL, Option.bind, ints_all, Option.map]; rfl), ?_⟩
  array_mem_dec
  generalize 7 + (ns.map fun i => 31 * (if i < 0 then -i else i)).sum = sd
  change Ret (callN p (n + 1) 9 [.loc 0, .int 8] [Dr.ob ⟨ns, 0, 0, sd, ⟨1, 0, 0, 0, 0, .lst []⟩⟩]) _
  refine (taken_ok hp ⟨_, rfl, Int.le_refl 0, rfl⟩ (by decide) (by decide)).imp fun v st1 ⟨⟨i1, e1, l1, m1⟩, ⟨d1, h1, a1, c1⟩, _⟩ => ?_
  subst e1
  array_mem_dec
  refine ⟨_, put_dr h1 rfl, ?_⟩
  have g1 := set_get (o' := Dr.ob { d1 with c := { d1.c with size := 1 + i1 } }) h1
  array_mem_dec
  refine ⟨_, ix_dr g1 rfl, ?_⟩
  array_mem_dec
  refine (taken_ok (m := 1 + i1) hp ⟨_, g1, a1, rfl⟩ (by omega) (by omega)).imp fun v st2 ⟨⟨i2, e2, l2, m2⟩, ⟨d2, h2, a2, c2⟩, _⟩ => ?_
  subst e2
  array_mem_dec
  refine ⟨_, put_dr h2 rfl, ?_⟩
  have g2 := set_get (o' := Dr.ob { d2 with c := { d2.c with place := i2 } }) h2
  array_mem_dec
  refine (taken_ok (m := 26) hp ⟨_, g2, a2, rfl⟩ (by decide) (by decide)).imp fun v st3 ⟨⟨i3, e3, l3, m3⟩, ⟨d3, h3, a3, c3⟩, _⟩ => ?_
  subst e3
  array_mem_dec
  refine ⟨_, put_dr h3 rfl, ?_⟩
  have g3 := set_get (o' := Dr.ob { d3 with c := { d3.c with turn := i3 } }) h3
  array_mem_dec
  refine (taken_ok (m := 9) hp ⟨_, g3, a3, rfl⟩ (by decide) (by decide)).imp fun v st4 ⟨⟨i4, e4, l4, m4⟩, ⟨d4, h4, a4, c4⟩, _⟩ => ?_
  subst e4
  array_mem_dec
  refine ⟨_, put_dr h4 rfl, ?_⟩
  have g4 := set_get (o' := Dr.ob { d4 with c := { d4.c with talk := if eqf (.int i4) (.int 8) then 1 else 0 } }) h4
  array_mem_dec
  refine ⟨rfl, _, ⟨_, g4, a4, rfl⟩, ?_⟩
  simp only at c1 c2 c3 c4
  constructor <;> simp only [c4, c3, c2, c1] <;> first | omega | rfl | skip
end Mi
namespace Mi
theorem Fr.at {st s : Store} {o : Ob} (f : Fr st s) : Fr st (s.set st.length o) :=
  ⟨by simpa using f.1, fun q h0 hq => by rw [List.getElem?_set_ne (by omega)]; exact f.2 q h0 hq⟩
theorem Dw.at {c : Cst} {s : Store} {n : Nat} {o : Ob} (h : Dw c s) (hn : 0 < n) : Dw c (s.set n o) := by
  obtain ⟨d, h0, a, e⟩ := h
  exact ⟨d, by rw [List.getElem?_set_ne (by omega)]; exact h0, a, e⟩
theorem Dw.pos {c : Cst} {s : Store} (h : Dw c s) : 0 < s.length := by
  obtain ⟨d, h0, _⟩ := h; exact (List.getElem?_eq_some_iff.mp h0).1
theorem Dw.push {c : Cst} {s : Store} {o : Ob} (h : Dw c s) : Dw c (s ++ [o]) := by
  have hL := h.pos
  obtain ⟨d, h0, a, e⟩ := h
  exact ⟨d, by rw [List.getElem?_append_left hL]; exact h0, a, e⟩
/-- a list in the making, of this length -/
theorem app_ok {c : Cst} {st s : Store} {ks : List Val} {z : Val} {P : Val → Prop} (hL : 0 < st.length) (hk : s[st.length]? = some (.lst ks)) (lt : ks.length < 1000) (w : Dw c s) (f : Fr st s) (ha : ∀ k ∈ ks, P k) (hz : P z) :
    ∃ r, mtV .append (.loc st.length) [z] s = some r ∧ (Dw c r.2 ∧ Fr st r.2 ∧ ∃ ks', r.2[st.length]? = some (.lst ks') ∧ ks'.length = ks.length + 1 ∧ ∀ z ∈ ks', P z) := by
  have lt : ks.length < PySem.sizeLine := Nat.lt_trans lt (by decide)
  refine ⟨(.non, s.set st.length (.lst (ks ++ [z]))), by simp only [mtV, hk, if_pos lt], w.at hL, f.at, ks ++ [z], List.getElem?_set_self (List.getElem?_eq_some_iff.mp hk).1, by simp, fun y hy => ?_⟩
  rcases List.mem_append.mp hy with hy | hy
  · exact ha y hy
  · simp at hy; subst hy; exact hz
theorem app_at {st s : Store} {ks : List Val} (hk : s[st.length]? = some (.lst ks)) : mtOk .append (.loc st.length) s = true := by simp only [mtOk, hk]
abbrev kNum : Txt := [110, 117, 109, 98, 101, 114]
abbrev kText : Txt := [116, 101, 120, 116]
abbrev kRow : Txt := [114, 111, 119]
abbrev kBook : Txt := [98, 111, 111, 107]
abbrev kSome : Txt := [115, 111, 109, 101]
abbrev kWith : Txt := [119, 105, 116, 104]
abbrev kShape : Txt := [115, 104, 97, 112, 101]
abbrev kShape_ : Txt := [115, 104, 97, 112, 101, 32]
abbrev kLetter : Txt := [108, 101, 116, 116, 101, 114]
abbrev kCut : Txt := [99, 117, 116]
/-- a kind's choices -/
inductive Ch where
  | num | txt | ltr (x : Txt) | cut (x : Txt) (hs : List Txt) | box (b : Bool) (ks : List Ch) | shp (fs : List (Txt × List Ch)) | som (b : Bool) | wit (f : Txt)
abbrev bw (b : Bool) : Txt := match b with
  | true => kRow
  | false => kBook
mutual
def Ch.v : Ch → Val
  | .num => .tup [.str kNum]
  | .txt => .tup [.str kText]
  | .ltr x => .tup [.str kLetter, .str x]
  | .cut x hs => .tup [.str kCut, .str x, .tup (hs.map .str)]
  | .box b ks => .tup [.str (bw b), .tup (Ch.vs ks)]
  | .shp fs => .tup [.str kShape, .tup (Ch.fs fs)]
  | .som b => .tup [.str kSome, .str (bw b)]
  | .wit f => .tup [.str kWith, .str f]
def Ch.vs : List Ch → List Val
  | [] => []
  | c :: r => c.v :: Ch.vs r
def Ch.fs : List (Txt × List Ch) → List Val
  | [] => []
  | f :: r => Ch.fd f :: Ch.fs r
def Ch.fd : Txt × List Ch → Val
  | (f, ks) => .tup [.str f, .tup (Ch.vs ks)]
end
mutual
/-- how deep -/
def Ch.dp : Ch → Nat
  | .box _ ks => Ch.dps ks + 1
  | .shp fs => Ch.dpf fs + 1
  | _ => 0
def Ch.dps : List Ch → Nat
  | [] => 0
  | c :: r => max c.dp (Ch.dps r)
def Ch.dpf : List (Txt × List Ch) → Nat
  | [] => 0
  | f :: r => max (Ch.dpd f) (Ch.dpf r)
def Ch.dpd : Txt × List Ch → Nat
  | (_, ks) => Ch.dps ks
end
theorem Ch.vs_map (ks : List Ch) : Ch.vs ks = ks.map Ch.v := by
  induction ks with
  | nil => rfl
  | cons c r ih => rw [Ch.vs, ih]; rfl
theorem Ch.fs_map (fs : List (Txt × List Ch)) : Ch.fs fs = fs.map Ch.fd := by
  induction fs with
  | nil => rfl
  | cons c r ih => rw [Ch.fs, ih]; rfl
theorem Ch.dps_le {n : Nat} : ∀ {ks : List Ch}, Ch.dps ks ≤ n ↔ ∀ k ∈ ks, k.dp ≤ n
  | [] => by simp [Ch.dps]
  | c :: r => by simp [Ch.dps, Nat.max_le, Ch.dps_le (ks := r)]
theorem Ch.dpf_le {n : Nat} : ∀ {fs : List (Txt × List Ch)}, Ch.dpf fs ≤ n ↔ ∀ f ∈ fs, Ch.dps f.2 ≤ n
  | [] => by simp [Ch.dpf]
  | (f, ks) :: r => by
    rw [Ch.dpf, Nat.max_le, Ch.dpf_le (fs := r), Ch.dpd]
    simp only [List.forall_mem_cons]
end Mi
namespace Mi
local macro_rules | `(tactic| array_mem_dec) => `(tactic| repeat (first | (with_reducible refine t_seq ?_) | (with_reducible refine t_skip ?_) | (with_reducible refine t_asg ?_) | (with_reducible refine t_ret ?_) | (with_reducible refine t_expr ?_) | (with_reducible refine t_put ?_) | (with_reducible refine t_ite ?_) | (with_reducible refine t_for ?_) | (with_reducible refine t_asgT ?_) | ((with_reducible apply v_var); rfl) | ((with_reducible apply b_var); rfl) | ((with_reducible apply i_var); rfl) | (with_reducible refine v_lit ?_) | (with_reducible refine v_ix ?_) | (with_reducible refine v_bin ?_) | (with_reducible refine v_cmp ?_) | (with_reducible refine v_call ?_) | (with_reducible refine v_tup ?_) | (with_reducible refine v_lst ?_) | (with_reducible refine v_new ?_) | (with_reducible refine v_fn ?_) | (with_reducible refine v_isi ?_) | (with_reducible refine v_mt ?_) | (with_reducible refine v_and ?_) | (with_reducible refine v_or ?_) | (with_reducible refine v_not ?_) | (with_reducible refine v_ite ?_) | (with_reducible refine v_neg ?_) | (with_reducible refine v_chain ?_) | (with_reducible refine v_isN ?_) | (with_reducible refine v_isB ?_) | (with_reducible refine v_lc ?_) | (with_reducible refine a_cons ?_) | (with_reducible refine a_nil ?_) | (with_reducible refine b_cmp ?_) | (with_reducible refine b_and ?_) | (with_reducible refine b_or ?_) | (with_reducible refine b_not ?_) | (with_reducible refine b_call ?_) | (with_reducible refine b_isi ?_) | (with_reducible refine b_lit ?_) | (with_reducible refine b_isN ?_) | (with_reducible refine b_isB ?_) | (with_reducible refine b_chain ?_) | (with_reducible refine b_mt ?_) | (with_reducible refine b_fn ?_) | (with_reducible refine i_rng ?_) | (with_reducible refine i_ix ?_) | (with_reducible refine i_fn ?_) | (with_reducible refine i_call ?_) | (with_reducible refine i_bin ?_) | (with_reducible refine i_lst ?_) | (with_reducible refine i_sortK ?_) | (with_reducible refine i_tup ?_) | (with_reducible refine i_lc ?_) | (with_reducible refine v_dcpy ?_) | (with_reducible refine v_lnew ?_) | refine ⟨Nat.le_of_ble_eq_true rfl, ?_⟩ | refine ⟨_, rfl, ?_⟩))
theorem t_cut {D : De} {C : Itp} {a b : Sm} {η : Env} {st : Store} (M : Env → Store → Prop) (h : FlP (exec C a η st) { nx := M, rt := D.rt, bk := D.bk, ct := D.ct }) (k : ∀ η st, M η st → FlP (exec C b η st) D) : FlP (exec C (.seq a b) η st) D :=
  t_seq (fl_imp h k (fun _ _ h => h) (fun _ _ h => h) (fun _ _ h => h))
/-! words -/
def talkW : List Txt := [[115, 105, 122, 101], [97, 116], [114, 111, 119], [105, 115], [104, 97, 115], [103, 101, 116], [112, 117, 116], [108, 111, 111, 107], [108, 101, 116], [101, 97, 99, 104], [102, 111, 108, 100], [105, 102], [112, 108, 117, 115], [109, 105, 110, 117, 115], [106, 111, 105, 110], [112, 117, 115, 104], [110, 97, 109, 101], [116, 101, 120, 116], [98, 111, 111, 107]]
def wd (c : Cst) (k : Nat) : Txt :=
  if c.talk = 1 ∧ k < 19 then (talkW[k]?).getD [] else repT [113] c.place.toNat ++ [97 + ((k : Int) + c.turn).toNat % 26] ++ repT [113] (c.size - c.place - 1).toNat
structure Word (t : Txt) : Prop where
  ne : t ≠ []
  len : t.length ≤ 8
  low : ∀ x ∈ t, 97 ≤ x ∧ x ≤ 122
theorem repT_q (n : Nat) : (repT [113] n).length = n ∧ ∀ x ∈ repT [113] n, x = 113 := by
  induction n with
  | zero => simp [repT]
  | succ n ih => simp [repT, ih.1]; exact ih.2
theorem wd_word {c : Cst} (h : Cok c) (k : Nat) : Word (wd c k) := by
  unfold wd
  split
  · rename_i e
    have : ∀ k < 19, Word ((talkW[k]?).getD []) := by
      intro k hk
      have e : ∀ t ∈ talkW, t ≠ [] ∧ t.length ≤ 8 ∧ ∀ x ∈ t, 97 ≤ x ∧ x ≤ 122 := by decide
      have l : k < talkW.length := hk
      rw [List.getElem?_eq_getElem l]
      obtain ⟨a, b, c⟩ := e _ (List.getElem_mem l)
      exact ⟨a, b, c⟩
    exact this k e.2
  · obtain ⟨a1, a2⟩ := repT_q c.place.toNat
    obtain ⟨b1, b2⟩ := repT_q (c.size - c.place - 1).toNat
    have := h.s2; have := h.p1; have := h.p2
    refine ⟨by simp, by simp only [List.length_append, List.length_cons, List.length_nil, a1, b1]; omega, fun x hx => ?_⟩
    simp only [List.mem_append, List.mem_singleton] at hx
    rcases hx with (hx | hx) | hx
    · rw [a2 x hx]; decide
    · subst hx; omega
    · rw [b2 x hx]; decide
theorem abc (n : Nat) (h : n < 26) : L2.atI [97, 98, 99, 100, 101, 102, 103, 104, 105, 106, 107, 108, 109, 110, 111, 112, 113, 114, 115, 116, 117, 118, 119, 120, 121, 122] (n : Int) = some (97 + n) := by
  have : ∀ n : Nat, n < 26 → L2.atI [97, 98, 99, 100, 101, 102, 103, 104, 105, 106, 107, 108, 109, 110, 111, 112, 113, 114, 115, 116, 117, 118, 119, 120, 121, 122] ((n : Nat) : Int) = some (97 + n) := by decide
  exact this n h
theorem mul_q {st : Store} {j : Int} (h : 0 ≤ j) (h2 : j ≤ 8) : binV st .mul (.str [113]) (.int j) = some (.str (repT [113] j.toNat)) := by
  simp only [binV]
  rw [if_pos ⟨h, by omega, by simp; omega⟩]
theorem add_str {st : Store} {x y : Txt} (h : x.length + y.length ≤ 1000000) : binV st .add (.str x) (.str y) = some (.str (x ++ y)) := by
  simp only [binV, addV]; rw [if_pos (Nat.le_trans h (by decide))]
theorem word_ok {p : Prg} {n : Nat} {st : Store} {c : Cst} (hp : p.fns[10]? = some d_law_word) (h : Dw c st) (hc : Cok c) (k : Nat) :
    Ret (callN p (n + 1) 10 [.loc 0, .int k] st) fun v st' => v = .str (wd c k) ∧ st' = st := by
  obtain ⟨d, h0, _, rfl⟩ := h
  refine call_of hp rfl ?_
  simp only [d_law_word, List.map_cons, List.map_nil, List.length_cons, List.length_nil, List.cons_append, List.nil_append, Nat.reduceAdd, Nat.reduceSub, Nat.zero_add, Nat.add_zero, Nat.sub_self, Nat.sub_zero, List.replicate]
  refine t_cut (fun η s => η = [some (.loc 0), some (.int k), none, none] ∧ s = st ∧ ¬ (d.c.talk = 1 ∧ k < 19)) ?_ ?_
  · array_mem_dec
    refine ⟨_, ix_dr h0 rfl, ?_⟩
    array_mem_dec
    refine ⟨fun e => ?_, fun e => ?_⟩
    · array_mem_dec
      refine ⟨fun e2 => ?_, fun e2 => ?_⟩
      · have hk : k < 19 := by have := of_decide_eq_true e2; omega
        have ht : d.c.talk = 1 := by simpa [eqf] using e
        array_mem_dec
        refine ⟨.str ((talkW[k]?).getD []), ?_, ?_, rfl⟩
        · have z : ∀ k : Nat, k < 19 → L2.atI (talkW.map Val.str) ((k : Nat) : Int) = some (.str ((talkW[k]?).getD [])) := by
            intro k hk
            have hl : (talkW.map Val.str).length = 19 := rfl
            have l : k < talkW.length := hk
            have h1 : (k : Int) < 19 := by omega
            simp [L2.atI, L2.ixN, hl, h1, List.getElem?_eq_getElem l]
          exact z k hk
        · rw [wd, if_pos ⟨ht, hk⟩]
      · array_mem_dec
        exact ⟨rfl, rfl, fun z => by have := of_decide_eq_false e2; omega⟩
    · refine ⟨nofun, fun _ => ?_⟩
      array_mem_dec
      exact ⟨rfl, rfl, fun z => by simp [eqf, z.1] at e⟩
  rintro η s ⟨rfl, rfl, hn⟩
  have := hc.s2; have := hc.p1; have := hc.p2; have := hc.t1
  array_mem_dec
  refine ⟨_, ix_dr h0 rfl, ?_⟩
  array_mem_dec
  have e : ((k : Int) + d.c.turn) % 26 = ((((k : Int) + d.c.turn).toNat % 26 : Nat) : Int) := by omega
  refine ⟨.str [97 + ((k : Int) + d.c.turn).toNat % 26], ?_, ?_⟩
  · show (L2.atI _ (((k : Int) + d.c.turn) % 26)).map _ = _
    rw [e, abc _ (Nat.mod_lt _ (by decide))]; rfl
  array_mem_dec
  refine ⟨_, ix_dr h0 rfl, ?_⟩
  refine ⟨_, mul_q hc.p1 (by omega), ?_⟩
  array_mem_dec
  refine ⟨_, add_str (by rw [(repT_q _).1]; simp only [List.length_cons, List.length_nil]; omega), ?_⟩
  array_mem_dec
  refine ⟨_, ix_dr h0 rfl, ?_⟩
  array_mem_dec
  refine ⟨_, ix_dr h0 rfl, ?_⟩
  array_mem_dec
  refine ⟨_, mul_q (by omega) (by omega), ?_⟩
  refine ⟨_, add_str (by simp only [List.length_append, (repT_q _).1, List.length_cons, List.length_nil]; omega), ?_⟩
  refine ⟨?_, rfl⟩
  rw [wd, if_neg hn]
end Mi
namespace Mi
local macro_rules | `(tactic| array_mem_dec) => `(tactic| repeat (first | (with_reducible refine t_seq ?_) | (with_reducible refine t_skip ?_) | (with_reducible refine t_asg ?_) | (with_reducible refine t_ret ?_) | (with_reducible refine t_expr ?_) | (with_reducible refine t_put ?_) | (with_reducible refine t_ite ?_) | (with_reducible refine t_for ?_) | (with_reducible refine t_asgT ?_) | ((with_reducible apply v_var); rfl) | ((with_reducible apply b_var); rfl) | ((with_reducible apply i_var); rfl) | (with_reducible refine v_lit ?_) | (with_reducible refine v_ix ?_) | (with_reducible refine v_bin ?_) | (with_reducible refine v_cmp ?_) | (with_reducible refine v_call ?_) | (with_reducible refine v_tup ?_) | (with_reducible refine v_lst ?_) | (with_reducible refine v_new ?_) | (with_reducible refine v_fn ?_) | (with_reducible refine v_isi ?_) | (with_reducible refine v_mt ?_) | (with_reducible refine v_and ?_) | (with_reducible refine v_or ?_) | (with_reducible refine v_not ?_) | (with_reducible refine v_ite ?_) | (with_reducible refine v_neg ?_) | (with_reducible refine v_chain ?_) | (with_reducible refine v_isN ?_) | (with_reducible refine v_isB ?_) | (with_reducible refine v_lc ?_) | (with_reducible refine a_cons ?_) | (with_reducible refine a_nil ?_) | (with_reducible refine b_cmp ?_) | (with_reducible refine b_and ?_) | (with_reducible refine b_or ?_) | (with_reducible refine b_not ?_) | (with_reducible refine b_call ?_) | (with_reducible refine b_isi ?_) | (with_reducible refine b_lit ?_) | (with_reducible refine b_isN ?_) | (with_reducible refine b_isB ?_) | (with_reducible refine b_chain ?_) | (with_reducible refine b_mt ?_) | (with_reducible refine b_fn ?_) | (with_reducible refine i_rng ?_) | (with_reducible refine i_ix ?_) | (with_reducible refine i_fn ?_) | (with_reducible refine i_call ?_) | (with_reducible refine i_bin ?_) | (with_reducible refine i_lst ?_) | (with_reducible refine i_sortK ?_) | (with_reducible refine i_tup ?_) | (with_reducible refine i_lc ?_) | (with_reducible refine v_dcpy ?_) | (with_reducible refine v_lnew ?_) | refine ⟨Nat.le_of_ble_eq_true rfl, ?_⟩ | refine ⟨_, rfl, ?_⟩))
def All2 (P : Val → Val → Prop) : List Val → List Val → Prop
  | [], [] => True
  | x :: xs, y :: ys => P x y ∧ All2 P xs ys
  | _, _ => False
theorem lc_rel {η : Env} {tg : Tg} {T : Env → Store → Res Bool} {E : Env → Store → Res Val} (J : Store → Prop) (P : Val → Val → Prop) {R : List Val → Store → Prop} : ∀ (xs acc : List Val) (st : Store), J st →
    (∀ x ∈ xs, ∃ η1, asgTg tg x η = some η1 ∧ (∀ s, T η1 s = .ok true s) ∧ ∀ s, J s → Ret (E η1 s) fun v s => P x v ∧ J s) → acc.length + xs.length ≤ PySem.sizeLine →
    (∀ vs s, J s → All2 P xs vs → R (acc ++ vs) s) → Ret (lcLoop (fun _ => true) tg η T E xs acc st) R
  | [], acc, st, j, _, _, r => by
    have z := r [] st j trivial
    rw [List.append_nil] at z
    exact ret_ok z
  | x :: xs, acc, st, j, h, hl, r => by
    obtain ⟨η1, e, hT, hE⟩ := h x (by simp)
    simp only [lcLoop, if_true, e, hT]
    refine ret_bindN (r := Res.ok true st) (ret_ok ?_)
    refine ret_bindN ((hE st j).imp fun v s ⟨hv, hs⟩ => ?_)
    rw [if_pos (by simp at hl; omega)]
    refine lc_rel J P xs _ s hs (fun y hy => h y (by simp [hy])) (by simp at hl ⊢; omega) fun vs s j a => ?_
    have := r (v :: vs) s j ⟨hv, a⟩
    simpa using this
theorem map_of {α : Type} {f : α → Val} {P : α → Prop} : ∀ {vs : List Val}, (∀ v ∈ vs, ∃ x, v = f x ∧ P x) → ∃ xs : List α, vs = xs.map f ∧ ∀ x ∈ xs, P x
  | [], _ => ⟨[], rfl, by simp⟩
  | v :: vs, h => by
    obtain ⟨x, rfl, hx⟩ := h v (by simp)
    obtain ⟨xs, rfl, hxs⟩ := map_of (vs := vs) fun v hv => h v (by simp [hv])
    exact ⟨x :: xs, rfl, by simpa using ⟨hx, hxs⟩⟩
theorem fds_of {Q : List Ch → Prop} : ∀ {ts : List Txt} {vs : List Val}, All2 (fun x v => ∃ t ks, x = .str t ∧ v = .tup [.str t, .tup (Ch.vs ks)] ∧ Q ks) (ts.map .str) vs →
    ∃ fs : List (Txt × List Ch), vs = Ch.fs fs ∧ fs.map (·.1) = ts ∧ ∀ f ∈ fs, Q f.2
  | [], [], _ => ⟨[], rfl, rfl, by simp⟩
  | [], _ :: _, h => h.elim
  | _ :: _, [], h => h.elim
  | t :: ts, v :: vs, h => by
    obtain ⟨⟨t', ks, e, rfl, q⟩, h⟩ := h
    cases e
    obtain ⟨fs, rfl, e2, q2⟩ := fds_of h
    exact ⟨(t, ks) :: fs, rfl, by simp [e2], fun f hf => by
      rcases List.mem_cons.mp hf with rfl | hf
      · exact q
      · exact q2 f hf⟩
theorem strs_all : ∀ ts : List Txt, strsV (ts.map .str) = some ts
  | [] => rfl
  | n :: r => by simp only [List.map_cons, strsV, strs_all r, Option.map]
theorem ssort_ok {st : Store} {ts : List Txt} (h : ts.length < 64) : fnV st .ssort [.lst (ts.map .str)] = some (.lst ((sortU ts).map .str)) := by
  simp only [fnV, asL, Option.bind, strs_all, if_pos h]
theorem at_nat {xs : List Val} {n : Int} (h0 : 0 ≤ n) (h : n < xs.length) : ∃ v ∈ xs, L2.atI xs n = some v := by
  obtain ⟨k, rfl⟩ := Int.eq_ofNat_of_zero_le h0
  have hk : k < xs.length := by omega
  exact ⟨xs[k], List.getElem_mem hk, by simp [L2.atI, L2.ixN, hk]⟩
/-- a drawn kind -/
def COk (L N : Txt → Prop) : Nat → Ch → Prop
  | 0, c => (match c with
    | .num => True
    | .txt => True
    | .ltr x => L x
    | _ => False)
  | d + 1, c => (match c with
    | .num => True
    | .txt => True
    | .ltr x => L x
    | .box _ ks => (1 ≤ ks.length ∧ ks.length ≤ 3) ∧ ∀ k ∈ ks, COk L N d k
    | .shp fs => (1 ≤ fs.length ∧ fs.length ≤ 2) ∧ (fs.map (·.1)).Pairwise LtT ∧ (∀ f ∈ fs.map (·.1), N f) ∧ ∀ f ∈ fs, (1 ≤ f.2.length ∧ f.2.length ≤ 3) ∧ ∀ k ∈ f.2, COk L N d k
    | _ => False)
def KOk (L N : Txt → Prop) (d : Nat) (ks : List Ch) : Prop := (1 ≤ ks.length ∧ ks.length ≤ 3) ∧ ∀ k ∈ ks, COk L N d k
abbrev Nw (c : Cst) (f : Txt) : Prop := ∃ k : Nat, k < 3 ∧ f = wd c k
theorem Nw.word {c : Cst} (hc : Cok c) (f : Txt) (h : Nw c f) : Word f := by
  obtain ⟨k, _, rfl⟩ := h
  exact wd_word hc k
abbrev KindOf (c : Cst) (ls : List Txt) (d : Nat) (st : Store) (v : Val) (st' : Store) : Prop := (∃ ks, v = .tup (Ch.vs ks) ∧ KOk (· ∈ ls) (Nw c) d ks) ∧ Dw c st' ∧ Fr st st'
section
variable {p : Prg} {c : Cst} (hc : Cok c) (ls : List Txt) (hp : p.fns[9]? = some d_law_taken) (hw : p.fns[10]? = some d_law_word) (hk : p.fns[11]? = some d_law_kind) (hh : p.fns[12]? = some d_law_choice) (hf : p.fns[13]? = some d_law_fields)
include hp hk in
theorem kind_step (d K : Nat) (rec : ∀ st, Dw c st → Ret (callN p (K + 1) 12 [.loc 0, .int d, .lst (ls.map .str)] st) fun v st' => (∃ ch : Ch, v = ch.v ∧ COk (· ∈ ls) (Nw c) d ch) ∧ Dw c st' ∧ Fr st st') (st : Store) (h : Dw c st) :
    Ret (callN p (K + 2) 11 [.loc 0, .int d, .lst (ls.map .str)] st) (KindOf c ls d st) := by
  refine call_of hk rfl ?_
  simp only [d_law_kind, List.map_cons, List.map_nil, List.length_cons, List.length_nil, List.cons_append, List.nil_append, Nat.reduceAdd, Nat.reduceSub, Nat.zero_add, Nat.add_zero, Nat.sub_self, Nat.sub_zero, List.replicate]
  array_mem_dec
  refine (taken_ok hp h (by decide) (by decide)).imp fun v st1 ⟨⟨i1, e1, l1, m1⟩, w1, f1⟩ => ?_
  subst e1
  array_mem_dec
  refine ⟨⟨by omega, by omega⟩, ?_⟩
  rw [ckN]
  refine lc_all (fun s => Dw c s ∧ Fr st s) (fun v => ∃ ch : Ch, v = ch.v ∧ COk (· ∈ ls) (Nw c) d ch) _ _ _ ⟨w1, f1⟩ (fun x hx => ⟨_, rfl, fun _ => rfl, fun s ⟨ws, fs⟩ => ?_⟩) ?_ (by simp) fun vs s ⟨ws, fs⟩ hv hl => ?_
  · array_mem_dec
    exact (rec s ws).imp fun v s' ⟨a, b, c⟩ => ⟨a, b, fs.trans c⟩
  · simp [show PySem.sizeLine = 16777216 from rfl]; omega
  array_mem_dec
  obtain ⟨ks, rfl, hks⟩ := map_of hv
  refine ⟨⟨ks, by rw [Ch.vs_map], ?_, hks⟩, ws, fs⟩
  simp at hl
  omega
include hc hp hw hf in
theorem fields_step (d K : Nat) (rec : ∀ st, Dw c st → Ret (callN p (K + 1) 11 [.loc 0, .int d, .lst (ls.map .str)] st) (KindOf c ls d st)) (st : Store) (h : Dw c st) :
    Ret (callN p (K + 2) 13 [.loc 0, .int (d + 1 : Nat), .lst (ls.map .str)] st) fun v st' => (∃ fs : List (Txt × List Ch), v = .tup (Ch.fs fs) ∧ COk (· ∈ ls) (Nw c) (d + 1) (.shp fs)) ∧ Dw c st' ∧ Fr st st' := by
  refine call_of hf rfl ?_
  simp only [d_law_fields, List.map_cons, List.map_nil, List.length_cons, List.length_nil, List.cons_append, List.nil_append, Nat.reduceAdd, Nat.reduceSub, Nat.zero_add, Nat.add_zero, Nat.sub_self, Nat.sub_zero, List.replicate]
  array_mem_dec
  refine (taken_ok hp h (by decide) (by decide)).imp fun v st1 ⟨⟨i1, e1, l1, m1⟩, w1, f1⟩ => ?_
  subst e1
  array_mem_dec
  refine ⟨⟨by omega, by omega⟩, ?_⟩
  rw [ckN]
  refine lc_all (fun s => Dw c s ∧ Fr st s) (fun v => ∃ t, v = .str t ∧ Nw c t) _ _ _ ⟨w1, f1⟩ (fun x hx => ⟨_, rfl, fun _ => rfl, fun s ⟨ws, fs⟩ => ?_⟩) ?_ (by simp) fun vs s ⟨ws, fs⟩ hv hl => ?_
  · array_mem_dec
    refine (taken_ok hp ws (by decide) (by decide)).imp fun v s2 ⟨⟨i2, e2, l2, m2⟩, w2, f2⟩ => ?_
    subst e2
    array_mem_dec
    obtain ⟨k, rfl⟩ := Int.eq_ofNat_of_zero_le l2
    refine (word_ok hw w2 hc k).imp fun v s' ⟨e, e'⟩ => ?_
    subst e e'
    exact ⟨⟨_, rfl, k, by omega, rfl⟩, w2, fs.trans f2⟩
  · simp [show PySem.sizeLine = 16777216 from rfl]; omega
  obtain ⟨ts, rfl, hts⟩ := map_of hv
  array_mem_dec
  refine ⟨_, ssort_ok (by simp at hl; omega), ?_⟩
  array_mem_dec
  rw [ckN]
  have hlen := sortU_len ts
  refine lc_rel (fun s => Dw c s ∧ Fr st s) (fun x v => ∃ t ks, x = .str t ∧ v = .tup [.str t, .tup (Ch.vs ks)] ∧ KOk (· ∈ ls) (Nw c) d ks) _ _ _ ⟨ws, fs⟩ (fun x hx => ⟨_, rfl, fun _ => rfl, fun s ⟨ws, fs⟩ => ?_⟩) ?_ fun vs s ⟨ws, fs⟩ ha => ?_
  · obtain ⟨t, _, rfl⟩ := List.mem_map.mp hx
    array_mem_dec
    rw [show ((d + 1 : Nat) : Int) - 1 = (d : Int) by omega]
    refine (rec s ws).imp fun v s' ⟨⟨ks, e, hks⟩, w3, f3⟩ => ?_
    subst e
    array_mem_dec
    exact ⟨⟨t, ks, rfl, rfl, hks⟩, w3, fs.trans f3⟩
  · simp [show PySem.sizeLine = 16777216 from rfl] at hl ⊢; omega
  obtain ⟨fs', rfl, e1, q⟩ := fds_of ha
  array_mem_dec
  refine ⟨⟨fs', rfl, ?_, ?_, ?_, q⟩, ws, fs⟩
  · have e2 : fs'.length = (sortU ts).length := by rw [← e1, List.length_map]
    rw [e2]
    simp at hl
    refine ⟨?_, by omega⟩
    cases ts with
    | nil => simp at hl; omega
    | cons t r =>
      have m := (sortU_mem (t :: r) t).mpr (by simp)
      exact List.length_pos_of_mem m
  · rw [e1]; exact sortU_sorted ts
  · rw [e1]; exact fun f hf => hts f ((sortU_mem ts f).mp hf)
end
end Mi
namespace Mi
local macro_rules | `(tactic| array_mem_dec) => `(tactic| repeat (first | (with_reducible refine t_seq ?_) | (with_reducible refine t_skip ?_) | (with_reducible refine t_asg ?_) | (with_reducible refine t_ret ?_) | (with_reducible refine t_expr ?_) | (with_reducible refine t_put ?_) | (with_reducible refine t_ite ?_) | (with_reducible refine t_for ?_) | (with_reducible refine t_asgT ?_) | ((with_reducible apply v_var); rfl) | ((with_reducible apply b_var); rfl) | ((with_reducible apply i_var); rfl) | (with_reducible refine v_lit ?_) | (with_reducible refine v_ix ?_) | (with_reducible refine v_bin ?_) | (with_reducible refine v_cmp ?_) | (with_reducible refine v_call ?_) | (with_reducible refine v_tup ?_) | (with_reducible refine v_lst ?_) | (with_reducible refine v_new ?_) | (with_reducible refine v_fn ?_) | (with_reducible refine v_isi ?_) | (with_reducible refine v_mt ?_) | (with_reducible refine v_and ?_) | (with_reducible refine v_or ?_) | (with_reducible refine v_not ?_) | (with_reducible refine v_ite ?_) | (with_reducible refine v_neg ?_) | (with_reducible refine v_chain ?_) | (with_reducible refine v_isN ?_) | (with_reducible refine v_isB ?_) | (with_reducible refine v_lc ?_) | (with_reducible refine a_cons ?_) | (with_reducible refine a_nil ?_) | (with_reducible refine b_cmp ?_) | (with_reducible refine b_and ?_) | (with_reducible refine b_or ?_) | (with_reducible refine b_not ?_) | (with_reducible refine b_call ?_) | (with_reducible refine b_isi ?_) | (with_reducible refine b_lit ?_) | (with_reducible refine b_isN ?_) | (with_reducible refine b_isB ?_) | (with_reducible refine b_chain ?_) | (with_reducible refine b_mt ?_) | (with_reducible refine b_fn ?_) | (with_reducible refine i_rng ?_) | (with_reducible refine i_ix ?_) | (with_reducible refine i_fn ?_) | (with_reducible refine i_call ?_) | (with_reducible refine i_bin ?_) | (with_reducible refine i_lst ?_) | (with_reducible refine i_sortK ?_) | (with_reducible refine i_tup ?_) | (with_reducible refine i_lc ?_) | (with_reducible refine v_dcpy ?_) | (with_reducible refine v_lnew ?_) | refine ⟨Nat.le_of_ble_eq_true rfl, ?_⟩ | refine ⟨_, rfl, ?_⟩))
theorem COk.flat {L N : Txt → Prop} {d : Nat} {b : Bool} : COk L N d (if b then .num else .txt) := by cases d <;> cases b <;> trivial
theorem COk.let {L N : Txt → Prop} {d : Nat} {x : Txt} (h : L x) : COk L N d (.ltr x) := by cases d <;> exact h
section
variable {p : Prg} {c : Cst} (hc : Cok c) (ls : List Txt) (hp : p.fns[9]? = some d_law_taken) (hw : p.fns[10]? = some d_law_word) (hk : p.fns[11]? = some d_law_kind) (hh : p.fns[12]? = some d_law_choice) (hf : p.fns[13]? = some d_law_fields)
abbrev ChOf (c : Cst) (ls : List Txt) (d : Nat) (st : Store) (v : Val) (st' : Store) : Prop := (∃ ch : Ch, v = ch.v ∧ COk (· ∈ ls) (Nw c) d ch) ∧ Dw c st' ∧ Fr st st'
include hp hh in
theorem choose_step (d K : Nat) (hl : ls.length ≤ 1000)
    (recK : ∀ d' : Nat, d = d' + 1 → ∀ st, Dw c st → Ret (callN p (K + 1) 11 [.loc 0, .int d', .lst (ls.map .str)] st) (KindOf c ls d' st))
    (recF : ∀ d' : Nat, d = d' + 1 → ∀ st, Dw c st → Ret (callN p (K + 1) 13 [.loc 0, .int (d' + 1 : Nat), .lst (ls.map .str)] st) fun v st' => (∃ fs : List (Txt × List Ch), v = .tup (Ch.fs fs) ∧ COk (· ∈ ls) (Nw c) (d' + 1) (.shp fs)) ∧ Dw c st' ∧ Fr st st')
    (st : Store) (h : Dw c st) : Ret (callN p (K + 2) 12 [.loc 0, .int d, .lst (ls.map .str)] st) (ChOf c ls d st) := by
  refine call_of hh rfl ?_
  simp only [d_law_choice, List.map_cons, List.map_nil, List.length_cons, List.length_nil, List.cons_append, List.nil_append, Nat.reduceAdd, Nat.reduceSub, Nat.zero_add, Nat.add_zero, Nat.sub_self, Nat.sub_zero, List.replicate]
  array_mem_dec
  refine (taken_ok hp h (by decide) (by decide)).imp fun v st1 ⟨⟨i1, e1, l1, m1⟩, w1, f1⟩ => ?_
  subst e1
  refine t_cut (fun η s => η = [some (.loc 0), some (.int d), some (.lst (ls.map .str)), some (.int i1)] ∧ Dw c s ∧ Fr st s) ?_ ?_
  · array_mem_dec
    refine ⟨fun _ => ?_, fun _ => ?_⟩
    · array_mem_dec
      refine ⟨fun e => ?_, fun _ => ?_⟩
      · have e' : (0 : Int) < (ls.map Val.str).length := of_decide_eq_true e
        have el : (ls.map Val.str).length = ls.length := List.length_map ..
        array_mem_dec
        refine (taken_ok (m := ((ls.map Val.str).length : Int)) hp w1 e' (by omega)).imp fun v st2 ⟨⟨i2, e2, l2, m2⟩, w2, f2⟩ => ?_
        subst e2
        obtain ⟨v, hv, ev⟩ := at_nat l2 m2
        obtain ⟨x, hx, rfl⟩ := List.mem_map.mp hv
        refine ⟨_, ev, ?_⟩
        array_mem_dec
        exact ⟨⟨.ltr x, rfl, COk.let hx⟩, w2, f1.trans f2⟩
      · array_mem_dec
        exact ⟨rfl, w1, f1⟩
    · refine ⟨nofun, fun _ => ?_⟩
      array_mem_dec
      exact ⟨rfl, w1, f1⟩
  rintro η s ⟨rfl, w2, f2⟩
  refine t_cut (fun η s' => η = [some (.loc 0), some (.int d), some (.lst (ls.map .str)), some (.int i1)] ∧ s' = s) ?_ ?_
  · array_mem_dec
    refine ⟨fun e => ?_, fun _ => ?_⟩
    · array_mem_dec
      refine ⟨fun e1 => ?_, fun _ => ?_⟩
      · array_mem_dec
        refine ⟨fun e2 => ?_, fun _ => ?_⟩
        · obtain ⟨d', rfl⟩ : ∃ d', d = d' + 1 := by
            cases d with
            | zero => exact absurd (of_decide_eq_true e) (by decide)
            | succ d' => exact ⟨d', rfl⟩
          have e3 : (2 : Int) ≤ i1 := of_decide_eq_true e1
          have e4 : i1 ≤ (3 : Int) := of_decide_eq_true e2
          obtain rfl | rfl : i1 = 2 ∨ i1 = 3 := by omega
          all_goals
            array_mem_dec
            rw [show ((d' + 1 : Nat) : Int) - 1 = (d' : Int) by omega]
            refine (recK d' rfl s w2).imp fun v s' ⟨⟨ks, ev, hks⟩, w3, f3⟩ => ?_
            subst ev
            array_mem_dec
          · exact ⟨⟨.box true ks, rfl, hks⟩, w3, f2.trans f3⟩
          · exact ⟨⟨.box false ks, rfl, hks⟩, w3, f2.trans f3⟩
        · array_mem_dec
          exact ⟨rfl, rfl⟩
      · refine ⟨nofun, fun _ => ?_⟩
        array_mem_dec
        exact ⟨rfl, rfl⟩
    · refine ⟨nofun, fun _ => ?_⟩
      array_mem_dec
      exact ⟨rfl, rfl⟩
  rintro η s' ⟨rfl, rfl⟩
  refine t_cut (fun η s => η = [some (.loc 0), some (.int d), some (.lst (ls.map .str)), some (.int i1)] ∧ s = s') ?_ ?_
  · array_mem_dec
    refine ⟨fun e => ?_, fun _ => ?_⟩
    · array_mem_dec
      refine ⟨fun e1 => ?_, fun _ => ?_⟩
      · obtain ⟨d', rfl⟩ : ∃ d', d = d' + 1 := by
          cases d with
          | zero => exact absurd (of_decide_eq_true e) (by decide)
          | succ d' => exact ⟨d', rfl⟩
        array_mem_dec
        refine (recF d' rfl s' w2).imp fun v s ⟨⟨fs, ev, hfs⟩, w3, f3⟩ => ?_
        subst ev
        array_mem_dec
        exact ⟨⟨.shp fs, rfl, hfs⟩, w3, f2.trans f3⟩
      · array_mem_dec
        exact ⟨rfl, rfl⟩
    · refine ⟨nofun, fun _ => ?_⟩
      array_mem_dec
      exact ⟨rfl, rfl⟩
  rintro η s ⟨rfl, rfl⟩
  obtain e | e : i1 % 2 = 0 ∨ i1 % 2 = 1 := by omega
  · array_mem_dec
    rw [e]
    array_mem_dec
    exact ⟨⟨.num, rfl, COk.flat (b := true)⟩, w2, f2⟩
  · array_mem_dec
    rw [e]
    array_mem_dec
    exact ⟨⟨.txt, rfl, COk.flat (b := false)⟩, w2, f2⟩
include hc hp hw hk hh hf in
theorem kind_ok (hl : ls.length ≤ 1000) : ∀ (d m : Nat) (st : Store), Dw c st → Ret (callN p (3 * d + 3 + m) 11 [.loc 0, .int d, .lst (ls.map .str)] st) (KindOf c ls d st) := by
  intro d
  induction d with
  | zero =>
    intro m st h
    rw [show 3 * 0 + 3 + m = m + 1 + 2 by omega]
    exact kind_step ls hp hk 0 (m + 1) (fun st h => choose_step ls hp hh 0 m hl (fun _ e => by cases e) (fun _ e => by cases e) st h) st h
  | succ d ih =>
    intro m st h
    rw [show 3 * (d + 1) + 3 + m = 3 * d + 4 + m + 2 by omega]
    refine kind_step ls hp hk (d + 1) (3 * d + 4 + m) (fun st h => ?_) st h
    rw [show 3 * d + 4 + m + 1 = 3 * d + 3 + m + 2 by omega]
    refine choose_step ls hp hh (d + 1) (3 * d + 3 + m) hl (fun d' e st h => ?_) (fun d' e st h => ?_) st h
    · cases e
      rw [show 3 * d + 3 + m + 1 = 3 * d + 3 + (m + 1) by omega]
      exact ih (m + 1) st h
    · cases e
      rw [show 3 * d + 3 + m + 1 = 3 * d + 2 + m + 2 by omega]
      refine fields_step hc ls hp hw hf d (3 * d + 2 + m) (fun st h => ?_) st h
      rw [show 3 * d + 2 + m + 1 = 3 * d + 3 + m by omega]
      exact ih m st h
end
end Mi
namespace Mi
/-! texts of kinds -/
mutual
def Ch.sh : Ch → Txt
  | .num => kNum
  | .txt => kText
  | .ltr x => x
  | .cut x hs => x ++ [40] ++ joinT [44, 32] hs ++ [41]
  | .box b ks => bw b ++ [40] ++ joinT [32, 124, 32] (Ch.shs ks) ++ [41]
  | .shp fs => [123] ++ joinT [44, 32] (Ch.shf fs) ++ [125]
  | .som b => kSome ++ [32] ++ bw b
  | .wit f => kWith ++ [32] ++ f
def Ch.shs : List Ch → List Txt
  | [] => []
  | c :: r => c.sh :: Ch.shs r
def Ch.shf : List (Txt × List Ch) → List Txt
  | [] => []
  | f :: r => Ch.shd f :: Ch.shf r
def Ch.shd : Txt × List Ch → Txt
  | (f, ks) => f ++ [58, 32] ++ joinT [32, 124, 32] (Ch.shs ks)
end
abbrev Ch.shk (ks : List Ch) : Txt := joinT [32, 124, 32] (Ch.shs ks)
theorem Ch.shs_map (ks : List Ch) : Ch.shs ks = ks.map Ch.sh := by
  induction ks with
  | nil => rfl
  | cons c r ih => rw [Ch.shs, ih]; rfl
theorem Ch.shf_map (fs : List (Txt × List Ch)) : Ch.shf fs = fs.map Ch.shd := by
  induction fs with
  | nil => rfl
  | cons c r ih => rw [Ch.shf, ih]; rfl
theorem lc_map {α : Type} {η : Env} {st : Store} {tg : Tg} {T : Env → Store → Res Bool} {E : Env → Store → Res Val} (g f : α → Val) {R : List Val → Store → Prop} : ∀ (l : List α) (acc : List Val),
    (∀ a ∈ l, ∃ η1, asgTg tg (g a) η = some η1 ∧ (∀ s, T η1 s = .ok true s) ∧ Ret (E η1 st) fun v s => v = f a ∧ s = st) → acc.length + l.length ≤ PySem.sizeLine →
    R (acc ++ l.map f) st → Ret (lcLoop (fun _ => true) tg η T E (l.map g) acc st) R
  | [], acc, _, _, r => by
    rw [List.map_nil, List.append_nil] at r
    exact ret_ok r
  | a :: l, acc, h, hl, r => by
    obtain ⟨η1, e, hT, hE⟩ := h a (by simp)
    simp only [List.map_cons, lcLoop, if_true, e, hT]
    refine ret_bindN (r := Res.ok true st) (ret_ok ?_)
    refine ret_bindN (hE.imp fun v s ⟨hv, hs⟩ => ?_)
    rw [if_pos (by simp at hl; omega), hs, hv]
    exact lc_map g f l _ (fun y hy => h y (by simp [hy])) (by simp at hl ⊢; omega) (by simpa using r)
theorem joinT_ge (sep : Txt) : ∀ ts : List Txt, (ts.map (·.length)).sum + ts.length * sep.length ≤ (joinT sep ts).length + sep.length
  | [] => by simp [joinT]
  | [x] => by simp [joinT]
  | x :: y :: r => by
    have := joinT_ge sep (y :: r)
    simp only [joinT, List.map_cons, List.sum_cons, List.length_cons, List.length_append] at this ⊢
    simp only [Nat.add_mul, Nat.one_mul] at this ⊢
    omega
theorem joinT_mem {sep : Txt} : ∀ {ts : List Txt} {t : Txt}, t ∈ ts → t.length ≤ (joinT sep ts).length
  | [x], t, h => by simp at h; subst h; simp [joinT]
  | x :: y :: r, t, h => by
    rcases List.mem_cons.mp h with rfl | h
    · simp [joinT]
    · have := joinT_mem (sep := sep) h
      simp only [joinT, List.length_append]
      omega
theorem len_of_join {sep : Txt} (h : 1 ≤ sep.length) (ts : List Txt) : ts.length ≤ (joinT sep ts).length + sep.length := by
  have := joinT_ge sep ts
  have h2 : ts.length * 1 ≤ ts.length * sep.length := Nat.mul_le_mul_left _ h
  omega
theorem join_ok {st : Store} {sep : Txt} {ts : List Txt} {n : Nat} (h : (joinT sep ts).length ≤ n) (h2 : n + sep.length ≤ 16777216) : mtV .join (.str sep) [.lst (ts.map .str)] st = some (.str (joinT sep ts), st) := by
  have := joinT_ge sep ts
  simp only [mtV, asL, Option.bind, strs_all]
  rw [if_pos (by omega)]
theorem joinT_le {sep : Txt} {B : Nat} : ∀ {ts : List Txt}, (∀ t ∈ ts, t.length ≤ B) → (joinT sep ts).length ≤ ts.length * (B + sep.length)
  | [], _ => by simp [joinT]
  | [x], h => by
    have := h x (by simp)
    simp only [joinT, List.length_cons, List.length_nil]
    omega
  | x :: y :: r, h => by
    have h1 := h x (by simp)
    have h2 := joinT_le (sep := sep) (B := B) (ts := y :: r) fun t ht => h t (by simp [ht])
    simp only [joinT, List.length_append, List.length_cons, Nat.add_mul, Nat.one_mul] at h2 ⊢
    omega
end Mi
namespace Mi
local macro_rules | `(tactic| array_mem_dec) => `(tactic| repeat (first | (with_reducible refine t_seq ?_) | (with_reducible refine t_skip ?_) | (with_reducible refine t_asg ?_) | (with_reducible refine t_ret ?_) | (with_reducible refine t_expr ?_) | (with_reducible refine t_put ?_) | (with_reducible refine t_ite ?_) | (with_reducible refine t_for ?_) | (with_reducible refine t_asgT ?_) | ((with_reducible apply v_var); rfl) | ((with_reducible apply b_var); rfl) | ((with_reducible apply i_var); rfl) | (with_reducible refine v_lit ?_) | (with_reducible refine v_ix ?_) | (with_reducible refine v_bin ?_) | (with_reducible refine v_cmp ?_) | (with_reducible refine v_call ?_) | (with_reducible refine v_tup ?_) | (with_reducible refine v_lst ?_) | (with_reducible refine v_new ?_) | (with_reducible refine v_fn ?_) | (with_reducible refine v_isi ?_) | (with_reducible refine v_mt ?_) | (with_reducible refine v_and ?_) | (with_reducible refine v_or ?_) | (with_reducible refine v_not ?_) | (with_reducible refine v_ite ?_) | (with_reducible refine v_neg ?_) | (with_reducible refine v_chain ?_) | (with_reducible refine v_isN ?_) | (with_reducible refine v_isB ?_) | (with_reducible refine v_lc ?_) | (with_reducible refine a_cons ?_) | (with_reducible refine a_nil ?_) | (with_reducible refine b_cmp ?_) | (with_reducible refine b_and ?_) | (with_reducible refine b_or ?_) | (with_reducible refine b_not ?_) | (with_reducible refine b_call ?_) | (with_reducible refine b_isi ?_) | (with_reducible refine b_lit ?_) | (with_reducible refine b_isN ?_) | (with_reducible refine b_isB ?_) | (with_reducible refine b_chain ?_) | (with_reducible refine b_mt ?_) | (with_reducible refine b_fn ?_) | (with_reducible refine i_rng ?_) | (with_reducible refine i_ix ?_) | (with_reducible refine i_fn ?_) | (with_reducible refine i_call ?_) | (with_reducible refine i_bin ?_) | (with_reducible refine i_lst ?_) | (with_reducible refine i_sortK ?_) | (with_reducible refine i_tup ?_) | (with_reducible refine i_lc ?_) | (with_reducible refine v_dcpy ?_) | (with_reducible refine v_lnew ?_) | refine ⟨Nat.le_of_ble_eq_true rfl, ?_⟩ | refine ⟨_, rfl, ?_⟩))
section
variable {p : Prg} (hk : p.fns[0]? = some d_shown_kind) (hc : p.fns[1]? = some d_shown_choice)
include hk in
theorem shownK_step (K : Nat) (st : Store) (ks : List Ch) (hl : (Ch.shk ks).length ≤ 1000000) (rec : ∀ k ∈ ks, Ret (callN p K 1 [k.v] st) fun v s => v = .str k.sh ∧ s = st) :
    Ret (callN p (K + 1) 0 [.tup (Ch.vs ks)] st) fun v s => v = .str (Ch.shk ks) ∧ s = st := by
  have l2 := len_of_join (sep := [32, 124, 32]) (by decide) (Ch.shs ks)
  have l3 : (joinT [32, 124, 32] (Ch.shs ks)).length ≤ 1000000 := hl
  have l4 : (Ch.shs ks).length = ks.length := by rw [Ch.shs_map, List.length_map]
  refine call_of hk rfl ?_
  simp only [d_shown_kind, List.map_cons, List.map_nil, List.length_cons, List.length_nil, List.cons_append, List.nil_append, Nat.reduceAdd, Nat.reduceSub, Nat.zero_add, Nat.add_zero, Nat.sub_self, Nat.sub_zero, List.replicate]
  array_mem_dec
  refine ⟨rfl, ?_⟩
  array_mem_dec
  rw [ckN]
  simp only [Ch.vs_map]
  refine lc_map Ch.v (fun k => .str k.sh) _ _ (fun k hk => ⟨_, rfl, fun _ => rfl, ?_⟩) ?_ ?_
  · array_mem_dec
    exact rec k hk
  · simp only [List.length_nil, List.length_cons, show PySem.sizeLine = 16777216 from rfl] at l2 ⊢
    omega
  array_mem_dec
  refine ⟨(.str (Ch.shk ks), st), ?_, rfl, rfl⟩
  have e : ([] ++ ks.map fun k => Val.str k.sh) = (Ch.shs ks).map .str := by rw [Ch.shs_map, List.map_map]; rfl
  rw [e]
  exact join_ok hl (by decide)
include hc in
theorem shownC_step (K : Nat) (st : Store) (c : Ch) (hl : c.sh.length ≤ 1000000)
    (rec : ∀ ks, Ch.dps ks < c.dp → (Ch.shk ks).length ≤ 1000000 → Ret (callN p K 0 [.tup (Ch.vs ks)] st) fun v s => v = .str (Ch.shk ks) ∧ s = st) :
    Ret (callN p (K + 1) 1 [c.v] st) fun v s => v = .str c.sh ∧ s = st := by
  refine call_of hc rfl ?_
  simp only [d_shown_choice, List.map_cons, List.map_nil, List.length_cons, List.length_nil, List.cons_append, List.nil_append, Nat.reduceAdd, Nat.reduceSub, Nat.zero_add, Nat.add_zero, Nat.sub_self, Nat.sub_zero, List.replicate]
  cases c with
  | num =>
    simp only [Ch.v]
    array_mem_dec
    refine ⟨nofun, fun _ => ?_⟩
    array_mem_dec
    refine ⟨nofun, fun _ => ?_⟩
    array_mem_dec
    refine ⟨nofun, fun _ => ?_⟩
    array_mem_dec
    refine ⟨nofun, fun _ => ?_⟩
    array_mem_dec
    refine ⟨nofun, fun _ => ?_⟩
    array_mem_dec
    exact ⟨rfl, rfl⟩
  | txt =>
    simp only [Ch.v]
    array_mem_dec
    refine ⟨nofun, fun _ => ?_⟩
    array_mem_dec
    refine ⟨nofun, fun _ => ?_⟩
    array_mem_dec
    refine ⟨nofun, fun _ => ?_⟩
    array_mem_dec
    refine ⟨nofun, fun _ => ?_⟩
    array_mem_dec
    refine ⟨nofun, fun _ => ?_⟩
    array_mem_dec
    exact ⟨rfl, rfl⟩
  | ltr x =>
    simp only [Ch.v]
    array_mem_dec
    refine ⟨nofun, fun _ => ?_⟩
    array_mem_dec
    refine ⟨nofun, fun _ => ?_⟩
    array_mem_dec
    refine ⟨fun _ => ?_, nofun⟩
    array_mem_dec
    exact ⟨rfl, rfl⟩
  | cut x hs =>
    simp only [Ch.v]
    have h1 : (joinT [44, 32] hs).length ≤ 1000000 ∧ x.length + 1 + (joinT [44, 32] hs).length + 1 ≤ 1000000 := by
      simp only [Ch.sh, List.length_append, List.length_cons, List.length_nil] at hl
      omega
    array_mem_dec
    refine ⟨nofun, fun _ => ?_⟩
    array_mem_dec
    refine ⟨nofun, fun _ => ?_⟩
    array_mem_dec
    refine ⟨nofun, fun _ => ?_⟩
    array_mem_dec
    refine ⟨fun _ => ?_, nofun⟩
    array_mem_dec
    refine ⟨_, add_str (by simp only [List.length_cons, List.length_nil]; omega), ?_⟩
    array_mem_dec
    refine ⟨rfl, ?_⟩
    array_mem_dec
    refine ⟨(.str (joinT [44, 32] hs), st), join_ok h1.1 (by decide), ?_⟩
    refine ⟨_, add_str (by simp only [List.length_append, List.length_cons, List.length_nil]; omega), ?_⟩
    array_mem_dec
    refine ⟨_, add_str (by simp only [List.length_append, List.length_cons, List.length_nil]; omega), ?_⟩
    exact ⟨rfl, rfl⟩
  | box b ks =>
    have h1 : (Ch.shk ks).length ≤ 1000000 ∧ (bw b).length + 1 + (Ch.shk ks).length + 1 ≤ 1000000 := by
      simp only [Ch.sh, List.length_append, List.length_cons, List.length_nil] at hl
      exact ⟨by show (joinT _ _).length ≤ _; omega, by show _ + 1 + (joinT _ _).length + 1 ≤ _; omega⟩
    have r := rec ks (by simp only [Ch.dp]; omega) h1.1
    have fin : ∀ b, (bw b).length + 1 + (Ch.shk ks).length + 1 ≤ 1000000 → ∀ (η : Env), η[0]? = some (some (.tup [.str (bw b), .tup (Ch.vs ks)])) → True := fun _ _ _ _ => trivial
    cases b with
    | true =>
      simp only [Ch.v]
      array_mem_dec
      refine ⟨fun _ => ?_, nofun⟩
      array_mem_dec
      refine r.imp fun v s ⟨e1, e2⟩ => ?_
      subst e1 e2
      have h2 := h1.2
      simp only [List.length_cons, List.length_nil] at h2
      refine ⟨_, add_str (by simp only [List.length_append, List.length_cons, List.length_nil]; omega), ?_⟩
      array_mem_dec
      refine ⟨_, add_str (by simp only [List.length_append, List.length_cons, List.length_nil]; omega), ?_⟩
      exact ⟨rfl, rfl⟩
    | false =>
      simp only [Ch.v]
      array_mem_dec
      refine ⟨fun _ => ?_, nofun⟩
      array_mem_dec
      refine r.imp fun v s ⟨e1, e2⟩ => ?_
      subst e1 e2
      have h2 := h1.2
      simp only [List.length_cons, List.length_nil] at h2
      refine ⟨_, add_str (by simp only [List.length_append, List.length_cons, List.length_nil]; omega), ?_⟩
      array_mem_dec
      refine ⟨_, add_str (by simp only [List.length_append, List.length_cons, List.length_nil]; omega), ?_⟩
      exact ⟨rfl, rfl⟩
  | shp fs =>
    simp only [Ch.v]
    have h1 : (joinT [44, 32] (Ch.shf fs)).length ≤ 1000000 ∧ 1 + (joinT [44, 32] (Ch.shf fs)).length + 1 ≤ 1000000 := by
      simp only [Ch.sh, List.length_append, List.length_cons, List.length_nil] at hl
      omega
    array_mem_dec
    refine ⟨nofun, fun _ => ?_⟩
    array_mem_dec
    refine ⟨fun _ => ?_, nofun⟩
    array_mem_dec
    refine ⟨rfl, ?_⟩
    array_mem_dec
    rw [ckN]
    simp only [Ch.fs_map]
    have l2 := len_of_join (sep := [44, 32]) (by decide) (Ch.shf fs)
    have l4 : (Ch.shf fs).length = fs.length := by rw [Ch.shf_map, List.length_map]
    refine lc_map Ch.fd (fun f => .str (Ch.shd f)) _ _ (fun f hf => ?_) ?_ ?_
    · obtain ⟨f, ks⟩ := f
      have l5 : (f ++ [58, 32] ++ Ch.shk ks).length ≤ (joinT [44, 32] (Ch.shf fs)).length := joinT_mem (by rw [Ch.shf_map]; exact List.mem_map.mpr ⟨(f, ks), hf, rfl⟩)
      simp only [List.length_append, List.length_cons, List.length_nil] at l5
      refine ⟨_, rfl, fun _ => rfl, ?_⟩
      array_mem_dec
      refine ⟨_, add_str (by simp only [List.length_cons, List.length_nil]; omega), ?_⟩
      array_mem_dec
      refine (rec ks (by simp only [Ch.dp]; exact Nat.lt_succ_of_le (Ch.dpf_le.mp (Nat.le_refl _) _ hf)) (by omega)).imp fun v s ⟨e1, e2⟩ => ?_
      subst e1 e2
      refine ⟨_, add_str (by simp only [List.length_append, List.length_cons, List.length_nil]; omega), ?_⟩
      exact ⟨rfl, rfl⟩
    · simp only [List.length_nil, List.length_cons, show PySem.sizeLine = 16777216 from rfl] at l2 ⊢
      omega
    array_mem_dec
    have e : ([] ++ fs.map fun f => Val.str (Ch.shd f)) = (Ch.shf fs).map .str := by rw [Ch.shf_map, List.map_map]; rfl
    rw [e]
    refine ⟨(.str (joinT [44, 32] (Ch.shf fs)), st), join_ok h1.1 (by decide), ?_⟩
    refine ⟨_, add_str (by simp only [List.length_append, List.length_cons, List.length_nil]; omega), ?_⟩
    array_mem_dec
    refine ⟨_, add_str (by simp only [List.length_append, List.length_cons, List.length_nil]; omega), ?_⟩
    exact ⟨rfl, rfl⟩
  | som b =>
    cases b with
    | true =>
      simp only [Ch.v]
      array_mem_dec
      refine ⟨nofun, fun _ => ?_⟩
      array_mem_dec
      refine ⟨nofun, fun _ => ?_⟩
      array_mem_dec
      refine ⟨nofun, fun _ => ?_⟩
      array_mem_dec
      refine ⟨nofun, fun _ => ?_⟩
      array_mem_dec
      refine ⟨fun _ => ?_, nofun⟩
      array_mem_dec
      exact ⟨rfl, rfl⟩
    | false =>
      simp only [Ch.v]
      array_mem_dec
      refine ⟨nofun, fun _ => ?_⟩
      array_mem_dec
      refine ⟨nofun, fun _ => ?_⟩
      array_mem_dec
      refine ⟨nofun, fun _ => ?_⟩
      array_mem_dec
      refine ⟨nofun, fun _ => ?_⟩
      array_mem_dec
      refine ⟨fun _ => ?_, nofun⟩
      array_mem_dec
      exact ⟨rfl, rfl⟩
  | wit f =>
    simp only [Ch.v]
    have h1 : 5 + f.length ≤ 1000000 := by
      simp only [Ch.sh, List.length_append, List.length_cons, List.length_nil] at hl
      omega
    array_mem_dec
    refine ⟨nofun, fun _ => ?_⟩
    array_mem_dec
    refine ⟨nofun, fun _ => ?_⟩
    array_mem_dec
    refine ⟨nofun, fun _ => ?_⟩
    array_mem_dec
    refine ⟨nofun, fun _ => ?_⟩
    array_mem_dec
    refine ⟨fun _ => ?_, nofun⟩
    array_mem_dec
    refine ⟨_, add_str (by simp only [List.length_append, List.length_cons, List.length_nil]; omega), ?_⟩
    exact ⟨rfl, rfl⟩
end
section
variable {p : Prg}
theorem shown_ok (hk : p.fns[0]? = some d_shown_kind) (hc : p.fns[1]? = some d_shown_choice) : ∀ (d m : Nat) (st : Store) (ks : List Ch), Ch.dps ks ≤ d → (Ch.shk ks).length ≤ 1000000 →
    Ret (callN p (m + 2 * d + 2) 0 [.tup (Ch.vs ks)] st) fun v s => v = .str (Ch.shk ks) ∧ s = st := by
  intro d
  induction d with
  | zero =>
    intro m st ks h hl
    refine shownK_step hk (m + 1) st ks hl fun k hk' => shownC_step hc m st k ?_ fun ls h2 _ => ?_
    · exact Nat.le_trans (joinT_mem (by rw [Ch.shs_map]; exact List.mem_map.mpr ⟨k, hk', rfl⟩)) hl
    · have := Ch.dps_le.mp h k hk'
      omega
  | succ d ih =>
    intro m st ks h hl
    rw [show m + 2 * (d + 1) + 2 = m + 2 * d + 2 + 1 + 1 by omega]
    refine shownK_step hk _ st ks hl fun k hk' => shownC_step hc _ st k ?_ fun ls h2 h3 => ?_
    · exact Nat.le_trans (joinT_mem (by rw [Ch.shs_map]; exact List.mem_map.mpr ⟨k, hk', rfl⟩)) hl
    · have := Ch.dps_le.mp h k hk'
      exact ih m st ls (by omega) h3
end
end Mi
namespace Mi
local macro_rules | `(tactic| array_mem_dec) => `(tactic| repeat (first | (with_reducible refine t_seq ?_) | (with_reducible refine t_skip ?_) | (with_reducible refine t_asg ?_) | (with_reducible refine t_ret ?_) | (with_reducible refine t_expr ?_) | (with_reducible refine t_put ?_) | (with_reducible refine t_ite ?_) | (with_reducible refine t_for ?_) | (with_reducible refine t_asgT ?_) | ((with_reducible apply v_var); rfl) | ((with_reducible apply b_var); rfl) | ((with_reducible apply i_var); rfl) | (with_reducible refine v_lit ?_) | (with_reducible refine v_ix ?_) | (with_reducible refine v_bin ?_) | (with_reducible refine v_cmp ?_) | (with_reducible refine v_call ?_) | (with_reducible refine v_tup ?_) | (with_reducible refine v_lst ?_) | (with_reducible refine v_new ?_) | (with_reducible refine v_fn ?_) | (with_reducible refine v_isi ?_) | (with_reducible refine v_mt ?_) | (with_reducible refine v_and ?_) | (with_reducible refine v_or ?_) | (with_reducible refine v_not ?_) | (with_reducible refine v_ite ?_) | (with_reducible refine v_neg ?_) | (with_reducible refine v_chain ?_) | (with_reducible refine v_isN ?_) | (with_reducible refine v_isB ?_) | (with_reducible refine v_lc ?_) | (with_reducible refine a_cons ?_) | (with_reducible refine a_nil ?_) | (with_reducible refine b_cmp ?_) | (with_reducible refine b_and ?_) | (with_reducible refine b_or ?_) | (with_reducible refine b_not ?_) | (with_reducible refine b_call ?_) | (with_reducible refine b_isi ?_) | (with_reducible refine b_lit ?_) | (with_reducible refine b_isN ?_) | (with_reducible refine b_isB ?_) | (with_reducible refine b_chain ?_) | (with_reducible refine b_mt ?_) | (with_reducible refine b_fn ?_) | (with_reducible refine i_rng ?_) | (with_reducible refine i_ix ?_) | (with_reducible refine i_fn ?_) | (with_reducible refine i_call ?_) | (with_reducible refine i_bin ?_) | (with_reducible refine i_lst ?_) | (with_reducible refine i_sortK ?_) | (with_reducible refine i_tup ?_) | (with_reducible refine i_lc ?_) | (with_reducible refine v_dcpy ?_) | (with_reducible refine v_lnew ?_) | refine ⟨Nat.le_of_ble_eq_true rfl, ?_⟩ | refine ⟨_, rfl, ?_⟩))
section
variable {p : Prg} (tk : p.fns[19]? = some d_law_told) (tc : p.fns[20]? = some d_law_told_choice)
include tk in
theorem toldK_step (K : Nat) (st : Store) (ks : List Ch) (hl : (Ch.shk ks).length ≤ 1000000) (rec : ∀ k ∈ ks, Ret (callN p K 20 [k.v] st) fun v s => v = .str k.sh ∧ s = st) :
    Ret (callN p (K + 1) 19 [.tup (Ch.vs ks)] st) fun v s => v = .str (Ch.shk ks) ∧ s = st := by
  have l2 := len_of_join (sep := [32, 124, 32]) (by decide) (Ch.shs ks)
  have l3 : (joinT [32, 124, 32] (Ch.shs ks)).length ≤ 1000000 := hl
  have l4 : (Ch.shs ks).length = ks.length := by rw [Ch.shs_map, List.length_map]
  refine call_of tk rfl ?_
  simp only [d_law_told, List.map_cons, List.map_nil, List.length_cons, List.length_nil, List.cons_append, List.nil_append, Nat.reduceAdd, Nat.reduceSub, Nat.zero_add, Nat.add_zero, Nat.sub_self, Nat.sub_zero, List.replicate]
  array_mem_dec
  refine ⟨rfl, ?_⟩
  array_mem_dec
  rw [ckN]
  simp only [Ch.vs_map]
  refine lc_map Ch.v (fun k => .str k.sh) _ _ (fun k hk => ⟨_, rfl, fun _ => rfl, ?_⟩) ?_ ?_
  · array_mem_dec
    exact rec k hk
  · simp only [List.length_nil, List.length_cons, show PySem.sizeLine = 16777216 from rfl] at l2 ⊢
    omega
  array_mem_dec
  refine ⟨(.str (Ch.shk ks), st), ?_, rfl, rfl⟩
  have e : ([] ++ ks.map fun k => Val.str k.sh) = (Ch.shs ks).map .str := by rw [Ch.shs_map, List.map_map]; rfl
  rw [e]
  exact join_ok hl (by decide)
include tc in
theorem toldC_step (K : Nat) (st : Store) (c : Ch) (hl : c.sh.length ≤ 1000000)
    (rec : ∀ ks, Ch.dps ks < c.dp → (Ch.shk ks).length ≤ 1000000 → Ret (callN p K 19 [.tup (Ch.vs ks)] st) fun v s => v = .str (Ch.shk ks) ∧ s = st) :
    Ret (callN p (K + 1) 20 [c.v] st) fun v s => v = .str c.sh ∧ s = st := by
  refine call_of tc rfl ?_
  simp only [d_law_told_choice, List.map_cons, List.map_nil, List.length_cons, List.length_nil, List.cons_append, List.nil_append, Nat.reduceAdd, Nat.reduceSub, Nat.zero_add, Nat.add_zero, Nat.sub_self, Nat.sub_zero, List.replicate]
  cases c with
  | num =>
    simp only [Ch.v]
    array_mem_dec
    refine ⟨fun _ => ?_, nofun⟩
    array_mem_dec
    refine ⟨nofun, fun _ => ?_⟩
    array_mem_dec
    refine ⟨nofun, fun _ => ?_⟩
    array_mem_dec
    refine ⟨nofun, fun _ => ?_⟩
    array_mem_dec
    refine ⟨nofun, fun _ => ?_⟩
    array_mem_dec
    refine ⟨fun _ => ?_, nofun⟩
    array_mem_dec
    refine ⟨nofun, fun _ => ?_⟩
    array_mem_dec
    exact ⟨rfl, rfl⟩
  | txt =>
    simp only [Ch.v]
    array_mem_dec
    refine ⟨fun _ => ?_, nofun⟩
    array_mem_dec
    refine ⟨nofun, fun _ => ?_⟩
    array_mem_dec
    refine ⟨nofun, fun _ => ?_⟩
    array_mem_dec
    refine ⟨nofun, fun _ => ?_⟩
    array_mem_dec
    refine ⟨nofun, fun _ => ?_⟩
    array_mem_dec
    refine ⟨fun _ => ?_, nofun⟩
    array_mem_dec
    refine ⟨nofun, fun _ => ?_⟩
    array_mem_dec
    exact ⟨rfl, rfl⟩
  | ltr x =>
    simp only [Ch.v]
    array_mem_dec
    refine ⟨fun _ => ?_, nofun⟩
    array_mem_dec
    refine ⟨nofun, fun _ => ?_⟩
    array_mem_dec
    refine ⟨nofun, fun _ => ?_⟩
    array_mem_dec
    refine ⟨fun _ => ?_, nofun⟩
    array_mem_dec
    exact ⟨rfl, rfl⟩
  | cut x hs =>
    simp only [Ch.v]
    have h1 : (joinT [44, 32] hs).length ≤ 1000000 ∧ x.length + 1 + (joinT [44, 32] hs).length + 1 ≤ 1000000 := by
      simp only [Ch.sh, List.length_append, List.length_cons, List.length_nil] at hl
      omega
    array_mem_dec
    refine ⟨fun _ => ?_, nofun⟩
    array_mem_dec
    refine ⟨nofun, fun _ => ?_⟩
    array_mem_dec
    refine ⟨nofun, fun _ => ?_⟩
    array_mem_dec
    refine ⟨nofun, fun _ => ?_⟩
    array_mem_dec
    refine ⟨fun _ => ?_, nofun⟩
    array_mem_dec
    refine ⟨_, add_str (by simp only [List.length_cons, List.length_nil]; omega), ?_⟩
    array_mem_dec
    refine ⟨rfl, ?_⟩
    array_mem_dec
    refine ⟨(.str (joinT [44, 32] hs), st), join_ok h1.1 (by decide), ?_⟩
    refine ⟨_, add_str (by simp only [List.length_append, List.length_cons, List.length_nil]; omega), ?_⟩
    array_mem_dec
    refine ⟨_, add_str (by simp only [List.length_append, List.length_cons, List.length_nil]; omega), ?_⟩
    exact ⟨rfl, rfl⟩
  | box b ks =>
    have h1 : (Ch.shk ks).length ≤ 1000000 ∧ (bw b).length + 1 + (Ch.shk ks).length + 1 ≤ 1000000 := by
      simp only [Ch.sh, List.length_append, List.length_cons, List.length_nil] at hl
      exact ⟨by show (joinT _ _).length ≤ _; omega, by show _ + 1 + (joinT _ _).length + 1 ≤ _; omega⟩
    have r := rec ks (by simp only [Ch.dp]; omega) h1.1
    have fin : ∀ b, (bw b).length + 1 + (Ch.shk ks).length + 1 ≤ 1000000 → ∀ (η : Env), η[0]? = some (some (.tup [.str (bw b), .tup (Ch.vs ks)])) → True := fun _ _ _ _ => trivial
    cases b with
    | true =>
      simp only [Ch.v]
      array_mem_dec
      refine ⟨nofun, fun _ => ⟨fun _ => ?_, nofun⟩⟩
      array_mem_dec
      refine r.imp fun v s ⟨e1, e2⟩ => ?_
      subst e1 e2
      have h2 := h1.2
      simp only [List.length_cons, List.length_nil] at h2
      refine ⟨_, add_str (by simp only [List.length_append, List.length_cons, List.length_nil]; omega), ?_⟩
      array_mem_dec
      refine ⟨_, add_str (by simp only [List.length_append, List.length_cons, List.length_nil]; omega), ?_⟩
      exact ⟨rfl, rfl⟩
    | false =>
      simp only [Ch.v]
      array_mem_dec
      refine ⟨fun _ => ?_, nofun⟩
      array_mem_dec
      refine ⟨fun _ => ?_, nofun⟩
      array_mem_dec
      refine r.imp fun v s ⟨e1, e2⟩ => ?_
      subst e1 e2
      have h2 := h1.2
      simp only [List.length_cons, List.length_nil] at h2
      refine ⟨_, add_str (by simp only [List.length_append, List.length_cons, List.length_nil]; omega), ?_⟩
      array_mem_dec
      refine ⟨_, add_str (by simp only [List.length_append, List.length_cons, List.length_nil]; omega), ?_⟩
      exact ⟨rfl, rfl⟩
  | shp fs =>
    simp only [Ch.v]
    have h1 : (joinT [44, 32] (Ch.shf fs)).length ≤ 1000000 ∧ 1 + (joinT [44, 32] (Ch.shf fs)).length + 1 ≤ 1000000 := by
      simp only [Ch.sh, List.length_append, List.length_cons, List.length_nil] at hl
      omega
    array_mem_dec
    refine ⟨fun _ => ?_, nofun⟩
    array_mem_dec
    refine ⟨nofun, fun _ => ?_⟩
    array_mem_dec
    refine ⟨fun _ => ?_, nofun⟩
    array_mem_dec
    refine ⟨rfl, ?_⟩
    array_mem_dec
    rw [ckN]
    simp only [Ch.fs_map]
    have l2 := len_of_join (sep := [44, 32]) (by decide) (Ch.shf fs)
    have l4 : (Ch.shf fs).length = fs.length := by rw [Ch.shf_map, List.length_map]
    refine lc_map Ch.fd (fun f => .str (Ch.shd f)) _ _ (fun f hf => ?_) ?_ ?_
    · obtain ⟨f, ks⟩ := f
      have l5 : (f ++ [58, 32] ++ Ch.shk ks).length ≤ (joinT [44, 32] (Ch.shf fs)).length := joinT_mem (by rw [Ch.shf_map]; exact List.mem_map.mpr ⟨(f, ks), hf, rfl⟩)
      simp only [List.length_append, List.length_cons, List.length_nil] at l5
      refine ⟨_, rfl, fun _ => rfl, ?_⟩
      array_mem_dec
      refine ⟨_, add_str (by simp only [List.length_cons, List.length_nil]; omega), ?_⟩
      array_mem_dec
      refine (rec ks (by simp only [Ch.dp]; exact Nat.lt_succ_of_le (Ch.dpf_le.mp (Nat.le_refl _) _ hf)) (by omega)).imp fun v s ⟨e1, e2⟩ => ?_
      subst e1 e2
      refine ⟨_, add_str (by simp only [List.length_append, List.length_cons, List.length_nil]; omega), ?_⟩
      exact ⟨rfl, rfl⟩
    · simp only [List.length_nil, List.length_cons, show PySem.sizeLine = 16777216 from rfl] at l2 ⊢
      omega
    array_mem_dec
    have e : ([] ++ fs.map fun f => Val.str (Ch.shd f)) = (Ch.shf fs).map .str := by rw [Ch.shf_map, List.map_map]; rfl
    rw [e]
    refine ⟨(.str (joinT [44, 32] (Ch.shf fs)), st), join_ok h1.1 (by decide), ?_⟩
    refine ⟨_, add_str (by simp only [List.length_append, List.length_cons, List.length_nil]; omega), ?_⟩
    array_mem_dec
    refine ⟨_, add_str (by simp only [List.length_append, List.length_cons, List.length_nil]; omega), ?_⟩
    exact ⟨rfl, rfl⟩
  | som b =>
    cases b with
    | true =>
      simp only [Ch.v]
      array_mem_dec
      refine ⟨fun _ => ?_, nofun⟩
      array_mem_dec
      refine ⟨nofun, fun _ => ?_⟩
      array_mem_dec
      refine ⟨nofun, fun _ => ?_⟩
      array_mem_dec
      refine ⟨nofun, fun _ => ?_⟩
      array_mem_dec
      refine ⟨nofun, fun _ => ?_⟩
      array_mem_dec
      refine ⟨nofun, fun _ => ⟨fun _ => ?_, nofun⟩⟩
      array_mem_dec
      exact ⟨rfl, rfl⟩
    | false =>
      simp only [Ch.v]
      array_mem_dec
      refine ⟨fun _ => ?_, nofun⟩
      array_mem_dec
      refine ⟨nofun, fun _ => ?_⟩
      array_mem_dec
      refine ⟨nofun, fun _ => ?_⟩
      array_mem_dec
      refine ⟨nofun, fun _ => ?_⟩
      array_mem_dec
      refine ⟨nofun, fun _ => ?_⟩
      array_mem_dec
      refine ⟨nofun, fun _ => ⟨fun _ => ?_, nofun⟩⟩
      array_mem_dec
      exact ⟨rfl, rfl⟩
  | wit f =>
    simp only [Ch.v]
    have h1 : 5 + f.length ≤ 1000000 := by
      simp only [Ch.sh, List.length_append, List.length_cons, List.length_nil] at hl
      omega
    array_mem_dec
    refine ⟨fun _ => ?_, nofun⟩
    array_mem_dec
    refine ⟨nofun, fun _ => ?_⟩
    array_mem_dec
    refine ⟨nofun, fun _ => ?_⟩
    array_mem_dec
    refine ⟨nofun, fun _ => ?_⟩
    array_mem_dec
    refine ⟨nofun, fun _ => ?_⟩
    array_mem_dec
    refine ⟨fun _ => ?_, nofun⟩
    array_mem_dec
    refine ⟨fun _ => ?_, nofun⟩
    array_mem_dec
    refine ⟨_, add_str (by simp only [List.length_append, List.length_cons, List.length_nil]; omega), ?_⟩
    exact ⟨rfl, rfl⟩
end
section
variable {p : Prg}
theorem told_ok (hk : p.fns[19]? = some d_law_told) (hc : p.fns[20]? = some d_law_told_choice) : ∀ (d m : Nat) (st : Store) (ks : List Ch), Ch.dps ks ≤ d → (Ch.shk ks).length ≤ 1000000 →
    Ret (callN p (m + 2 * d + 2) 19 [.tup (Ch.vs ks)] st) fun v s => v = .str (Ch.shk ks) ∧ s = st := by
  intro d
  induction d with
  | zero =>
    intro m st ks h hl
    refine toldK_step hk (m + 1) st ks hl fun k hk' => toldC_step hc m st k ?_ fun ls h2 _ => ?_
    · exact Nat.le_trans (joinT_mem (by rw [Ch.shs_map]; exact List.mem_map.mpr ⟨k, hk', rfl⟩)) hl
    · have := Ch.dps_le.mp h k hk'
      omega
  | succ d ih =>
    intro m st ks h hl
    rw [show m + 2 * (d + 1) + 2 = m + 2 * d + 2 + 1 + 1 by omega]
    refine toldK_step hk _ st ks hl fun k hk' => toldC_step hc _ st k ?_ fun ls h2 h3 => ?_
    · exact Nat.le_trans (joinT_mem (by rw [Ch.shs_map]; exact List.mem_map.mpr ⟨k, hk', rfl⟩)) hl
    · have := Ch.dps_le.mp h k hk'
      exact ih m st ls (by omega) h3
end
end Mi
namespace Mi
/-! what is frozen stays, if nothing of the store is within -/
mutual
def puV : Nat → Val → Bool
  | 0, _ => false
  | n + 1, v => (match v with
    | .loc _ => false
    | .tup xs => puL n xs
    | _ => true)
def puL : Nat → List Val → Bool
  | 0, _ => false
  | _ + 1, [] => true
  | n + 1, x :: xs => puV n x && puL n xs
end
theorem frz_pure : ∀ n : Nat, (∀ v st, puV n v = true → frzV n v st = some (v, st)) ∧ ∀ xs st, puL n xs = true → frzL n xs st = some (xs, st) := by
  intro n
  induction n with
  | zero => exact ⟨fun _ _ h => by simp [puV] at h, fun _ _ h => by simp [puL] at h⟩
  | succ n ih =>
    refine ⟨fun v st h => ?_, fun xs st h => ?_⟩
    · cases v with
      | loc m => simp [puV] at h
      | tup xs => simp only [puV] at h; simp only [frzV, ih.2 xs st h, Option.map]
      | _ => rfl
    · cases xs with
      | nil => rfl
      | cons x xs =>
        simp only [puL, Bool.and_eq_true] at h
        simp only [frzL, ih.1 x st h.1, ih.2 xs st h.2, Option.bind, Option.map]
theorem pu_mono : ∀ n : Nat, (∀ v, puV n v = true → puV (n + 1) v = true) ∧ ∀ xs, puL n xs = true → puL (n + 1) xs = true := by
  intro n
  induction n with
  | zero => exact ⟨fun _ h => by simp [puV] at h, fun _ h => by simp [puL] at h⟩
  | succ n ih =>
    refine ⟨fun v h => ?_, fun xs h => ?_⟩
    · cases v with
      | loc m => simp [puV] at h
      | tup xs => rw [puV] at h ⊢; exact ih.2 xs h
      | _ => simp [puV]
    · cases xs with
      | nil => simp [puL]
      | cons x xs =>
        rw [puL, Bool.and_eq_true] at h ⊢
        exact ⟨ih.1 x h.1, ih.2 xs h.2⟩
theorem puV_le {v : Val} {n : Nat} (h : puV n v = true) : ∀ m, puV (n + m) v = true
  | 0 => h
  | m + 1 => (pu_mono _).1 v (puV_le h m)
theorem puL_of {n : Nat} : ∀ {xs : List Val}, (∀ x ∈ xs, puV n x = true) → puL (n + xs.length + 1) xs = true
  | [], _ => by simp [puL]
  | x :: xs, h => by
    have e : n + (x :: xs).length + 1 = n + xs.length + 1 + 1 := by simp; omega
    rw [e, puL, Bool.and_eq_true]
    refine ⟨?_, puL_of fun y hy => h y (by simp [hy])⟩
    rw [show n + xs.length + 1 = n + (xs.length + 1) by omega]
    exact puV_le (h x (by simp)) _
theorem puL_le {xs : List Val} {n : Nat} (h : puL n xs = true) : ∀ m, puL (n + m) xs = true
  | 0 => h
  | m + 1 => (pu_mono _).2 xs (puL_le h m)
/-- a drawn choice has nothing of the store within -/
theorem COk.pu {L N : Txt → Prop} : ∀ {d : Nat} {c : Ch}, COk L N d c → puV (20 * d + 5) c.v = true := by
  intro d
  induction d with
  | zero =>
    intro c h
    cases c <;> first | exact h.elim | rfl
  | succ d ih =>
    intro c h
    have kinds : ∀ ks : List Ch, ks.length ≤ 3 → (∀ k ∈ ks, COk L N d k) → puL (20 * d + 9) (Ch.vs ks) = true := fun ks hl hk => by
      rw [Ch.vs_map]
      have := puL_of (n := 20 * d + 5) (xs := ks.map Ch.v) fun x hx => by
        obtain ⟨k, hk', rfl⟩ := List.mem_map.mp hx
        exact ih (hk k hk')
      rw [List.length_map] at this
      obtain ⟨m, hm⟩ := Nat.exists_eq_add_of_le (show 20 * d + 5 + ks.length + 1 ≤ 20 * d + 9 by omega)
      rw [hm]
      exact puL_le this m
    cases c with
    | num => rfl
    | txt => rfl
    | ltr x => rfl
    | box b ks =>
      obtain ⟨hl, hk⟩ := h
      have := kinds ks hl.2 hk
      rw [show 20 * (d + 1) + 5 = (20 * d + 9) + 12 + 1 + 1 + 1 + 1 by omega]
      simp only [Ch.v, puV, puL, Bool.true_and, Bool.and_true]
      exact puL_le this 12
    | shp fs =>
      obtain ⟨hl, _, _, hk⟩ := h
      rw [show 20 * (d + 1) + 5 = (20 * d + 13) + 8 + 1 + 1 + 1 + 1 by omega]
      simp only [Ch.v, puV, puL, Bool.true_and, Bool.and_true]
      have q : puL ((20 * d + 13) + fs.length + 1) (Ch.fs fs) = true := by
        rw [Ch.fs_map]
        have := puL_of (n := 20 * d + 9 + 1 + 1 + 1 + 1) (xs := fs.map Ch.fd) fun x hx => by
          obtain ⟨⟨f, ks⟩, hf, rfl⟩ := List.mem_map.mp hx
          have := kinds ks (hk _ hf).1.2 (hk _ hf).2
          simp only [Ch.fd, puV, puL, Bool.true_and, Bool.and_true]
          exact this
        rw [List.length_map] at this
        exact this
      obtain ⟨m, hm⟩ := Nat.exists_eq_add_of_le (show (20 * d + 13) + fs.length + 1 ≤ (20 * d + 13) + 8 by omega)
      rw [hm]
      exact puL_le q m
    | _ => exact h.elim
end Mi
namespace Mi
local macro_rules | `(tactic| array_mem_dec) => `(tactic| repeat (first | (with_reducible refine t_seq ?_) | (with_reducible refine t_skip ?_) | (with_reducible refine t_asg ?_) | (with_reducible refine t_ret ?_) | (with_reducible refine t_expr ?_) | (with_reducible refine t_put ?_) | (with_reducible refine t_ite ?_) | (with_reducible refine t_for ?_) | (with_reducible refine t_asgT ?_) | ((with_reducible apply v_var); rfl) | ((with_reducible apply b_var); rfl) | ((with_reducible apply i_var); rfl) | (with_reducible refine v_lit ?_) | (with_reducible refine v_ix ?_) | (with_reducible refine v_bin ?_) | (with_reducible refine v_cmp ?_) | (with_reducible refine v_call ?_) | (with_reducible refine v_tup ?_) | (with_reducible refine v_lst ?_) | (with_reducible refine v_new ?_) | (with_reducible refine v_fn ?_) | (with_reducible refine v_isi ?_) | (with_reducible refine v_mt ?_) | (with_reducible refine v_and ?_) | (with_reducible refine v_or ?_) | (with_reducible refine v_not ?_) | (with_reducible refine v_ite ?_) | (with_reducible refine v_neg ?_) | (with_reducible refine v_chain ?_) | (with_reducible refine v_isN ?_) | (with_reducible refine v_isB ?_) | (with_reducible refine v_lc ?_) | (with_reducible refine a_cons ?_) | (with_reducible refine a_nil ?_) | (with_reducible refine b_cmp ?_) | (with_reducible refine b_and ?_) | (with_reducible refine b_or ?_) | (with_reducible refine b_not ?_) | (with_reducible refine b_call ?_) | (with_reducible refine b_isi ?_) | (with_reducible refine b_lit ?_) | (with_reducible refine b_isN ?_) | (with_reducible refine b_isB ?_) | (with_reducible refine b_chain ?_) | (with_reducible refine b_mt ?_) | (with_reducible refine b_fn ?_) | (with_reducible refine i_rng ?_) | (with_reducible refine i_ix ?_) | (with_reducible refine i_fn ?_) | (with_reducible refine i_call ?_) | (with_reducible refine i_bin ?_) | (with_reducible refine i_lst ?_) | (with_reducible refine i_sortK ?_) | (with_reducible refine i_tup ?_) | (with_reducible refine i_lc ?_) | (with_reducible refine v_dcpy ?_) | (with_reducible refine v_lnew ?_) | refine ⟨Nat.le_of_ble_eq_true rfl, ?_⟩ | refine ⟨_, rfl, ?_⟩))
abbrev Bd := List (Txt × List Ch)
def bks (b : Bd) : List Txt := b.map (·.1)
def bxs (b : Bd) : List Val := b.map fun q => .tup (Ch.vs q.2)
def bput (x : Txt) (k : List Ch) (b : Bd) : Bd := if x ∈ bks b then b.map (fun q => if q.1 = x then (q.1, k) else q) else b ++ [(x, k)]
theorem setA_map (x : Txt) (k : List Ch) : ∀ b : Bd, setA x (.tup (Ch.vs k)) (bks b) (bxs b) = bxs (b.map fun q => if q.1 = x then (q.1, k) else q)
  | [] => rfl
  | q :: b => by
    have ih := setA_map x k b
    simp only [bks, bxs, List.map_cons, setA] at ih ⊢
    rw [ih]
    by_cases h : q.1 = x
    · simp [h]
    · simp [h]
theorem putD_b (x : Txt) (k : List Ch) (b : Bd) : putD x (.tup (Ch.vs k)) (bks b) (bxs b) = (bks (bput x k b), bxs (bput x k b)) := by
  unfold putD bput
  by_cases h : x ∈ bks b
  · rw [if_pos h, if_pos h, setA_map]
    congr 1
    simp only [bks, List.map_map]
    apply List.map_congr_left
    intro q _
    by_cases e : q.1 = x <;> simp [e]
  · rw [if_neg h, if_neg h]
    simp [bks, bxs]
theorem bput_len (x : Txt) (k : List Ch) (b : Bd) : (bput x k b).length ≤ b.length + 1 := by
  unfold bput; split <;> simp
theorem bput_nodup (x : Txt) (k : List Ch) {b : Bd} (h : (bks b).Nodup) : (bks (bput x k b)).Nodup := by
  unfold bput
  split
  · have e : bks (b.map fun q => if q.1 = x then (q.1, k) else q) = bks b := by
      simp only [bks, List.map_map]
      apply List.map_congr_left
      intro q _
      by_cases e : q.1 = x <;> simp [e]
    rw [e]; exact h
  · rename_i hx
    rw [bks, List.map_append, List.nodup_append]
    refine ⟨h, by simp, fun a ha b hb e => ?_⟩
    simp at hb
    subst hb e
    exact hx ha
theorem bput_all {P : Txt × List Ch → Prop} {x : Txt} {k : List Ch} {b : Bd} (h : ∀ q ∈ b, P q) (hx : P (x, k)) : ∀ q ∈ bput x k b, P q := by
  unfold bput
  split
  · intro q hq
    obtain ⟨r, hr, e⟩ := List.mem_map.mp hq
    by_cases z : r.1 = x
    · rw [if_pos z, z] at e; subst e; exact hx
    · rw [if_neg z] at e; subst e; exact h r hr
  · intro q hq
    rcases List.mem_append.mp hq with hq | hq
    · exact h q hq
    · simp at hq; subst hq; exact hx
def up (t : Txt) : Txt := t.map (· - 32)
theorem up_ok {st : Store} {t : Txt} (h : Word t) : mtV .upper (.str t) [] st = some (.str (up t), st) := by
  simp only [mtV]
  rw [if_pos ⟨List.all_eq_true.mpr fun x hx => decide_eq_true (h.low x hx), Nat.le_trans h.len (by decide)⟩]
  rfl
theorem KOk.pu {L N : Txt → Prop} {d : Nat} {ks : List Ch} (h : KOk L N d ks) : puV (20 * d + 10) (.tup (Ch.vs ks)) = true := by
  simp only [puV, Ch.vs_map]
  have := puL_of (n := 20 * d + 5) (xs := ks.map Ch.v) fun x hx => by
    obtain ⟨k, hk, rfl⟩ := List.mem_map.mp hx
    exact (h.2 k hk).pu
  rw [List.length_map] at this
  obtain ⟨m, hm⟩ := Nat.exists_eq_add_of_le (show 20 * d + 5 + ks.length + 1 ≤ 20 * d + 9 by have := h.1.2; omega)
  rw [hm]
  exact puL_le this m
structure BOk (c : Cst) (n : Nat) (b : Bd) : Prop where
  len : b.length ≤ n
  nd : (bks b).Nodup
  all : ∀ q ∈ b, (∃ k < n, q.1 = up (wd c k)) ∧ KOk (· ∈ ([] : List Txt)) (Nw c) 1 q.2
section
variable {p : Prg} {c : Cst} (hc : Cok c) (hp : p.fns[9]? = some d_law_taken) (hw : p.fns[10]? = some d_law_word) (hk : p.fns[11]? = some d_law_kind) (hh : p.fns[12]? = some d_law_choice) (hf : p.fns[13]? = some d_law_fields) (hb : p.fns[14]? = some d_law_bounds)
include hc hp hw hk hh hf in
theorem kind_at (ls : List Txt) (hl : ls.length ≤ 1000) (d m : Nat) (st : Store) (h : Dw c st) : Ret (callN p (m + (3 * d + 3)) 11 [.loc 0, .int d, .lst (ls.map .str)] st) (KindOf c ls d st) := by
  rw [Nat.add_comm]
  exact kind_ok hc ls hp hw hk hh hf hl d m st h
include hc hp hw hk hh hf hb in
theorem bounds_ok (most m : Nat) (hm : most ≤ 10) (st : Store) (h : Dw c st) : Ret (callN p (m + 7) 14 [.loc 0, .int most] st) fun v st' => (∃ b : Bd, v = .dct (bks b) (bxs b) ∧ BOk c most b) ∧ Dw c st' ∧ Fr st st' := by
  have hL := h.pos
  refine call_of hb rfl ?_
  simp only [d_law_bounds, List.map_cons, List.map_nil, List.length_cons, List.length_nil, List.cons_append, List.nil_append, Nat.reduceAdd, Nat.reduceSub, Nat.zero_add, Nat.add_zero, Nat.sub_self, Nat.sub_zero, List.replicate]
  array_mem_dec
  refine v_dnew2 (ks := []) (xs := []) (D := ([], [])) ?_
  array_mem_dec
  refine ⟨rfl, Nat.le_of_ble_eq_true rfl, rfl, ?_⟩
  array_mem_dec
  refine (taken_ok (n := m + 5) (m := (most : Int) + 1) hp (h.push (o := .dct [] [])) (by omega) (by omega)).imp fun v st1 ⟨⟨i1, e1, l1, m1⟩, w1, f1⟩ => ?_
  subst e1
  array_mem_dec
  refine ⟨⟨by omega, by omega⟩, ?_⟩
  rw [ckN]
  refine for_inv (fun k η s => (∃ y, η = [some (.loc 0), some (.int most), some (.loc st.length), y]) ∧ Dw c s ∧ Fr st s ∧ ∃ b : Bd, s[st.length]? = some (.dct (bks b) (bxs b)) ∧ b.length ≤ k ∧ (bks b).Nodup ∧ ∀ q ∈ b, (∃ k < most, q.1 = up (wd c k)) ∧ KOk (· ∈ ([] : List Txt)) (Nw c) 1 q.2) ?_ ?_ ?_
  · exact ⟨⟨none, rfl⟩, w1, Fr.push.trans f1, [], by rw [f1.2 _ hL (by simp)]; simp [bks, bxs], by simp, by simp [bks], by simp⟩
  · rintro k x hx η s ⟨⟨y, rfl⟩, w, f, b, hbk, hbl, hnd, hba⟩
    have hkx := hx
    have hk10 : k < most := by
      have := (List.getElem?_eq_some_iff.mp hx).1
      simp at this
      omega
    have ex : x = .int k := by
      have l : k < i1.toNat := by
        have := (List.getElem?_eq_some_iff.mp hx).1
        simpa using this
      have z : ((List.range i1.toNat).map fun (k : Nat) => Val.int k)[k]? = some (.int k) := by
        rw [List.getElem?_map, List.getElem?_range l]; rfl
      exact Option.some.inj (hx.symm.trans z)
    subst ex
    refine ⟨_, rfl, ?_⟩
    array_mem_dec
    refine (kind_at hc hp hw hk hh hf [] (by simp) 1 m s w).imp fun v s2 ⟨⟨ks, ev, hks⟩, w2, f2⟩ => ?_
    subst ev
    have hL2 : st.length < s.length := (List.getElem?_eq_some_iff.mp hbk).1
    have k2 : s2[st.length]? = some (.dct (bks b) (bxs b)) := by rw [f2.2 _ hL hL2]; exact hbk
    array_mem_dec
    refine (word_ok hw w2 hc k).imp fun v s3 ⟨e, e'⟩ => ?_
    subst e e'
    refine ⟨rfl, ?_⟩
    array_mem_dec
    refine ⟨_, up_ok (wd_word hc k), ?_⟩
    have lt : (bxs b).length < PySem.sizeLine := by
      simp only [bxs, List.length_map, show PySem.sizeLine = 16777216 from rfl]; omega
    refine ⟨_, (by simp only [putV, k2, keyOf, Option.bind, if_pos lt, putD_b]; rfl), ?_⟩
    refine t_skip ?_
    refine ⟨⟨_, rfl⟩, w2.at hL, (f.trans f2).at, bput (up (wd c k)) ks b, List.getElem?_set_self (List.getElem?_eq_some_iff.mp k2).1, ?_, bput_nodup _ _ hnd, bput_all hba ⟨⟨k, hk10, rfl⟩, hks⟩⟩
    have := bput_len (up (wd c k)) ks b
    omega
  · rintro η s ⟨⟨y, rfl⟩, w, f, b, hbk, hbl, hnd, hba⟩
    have hbl : b.length ≤ most := by
      simp at hbl
      omega
    have fz : frzV 1000 (.loc st.length) s = some (.dct (bks b) (bxs b), s.set st.length .dead) := by
      simp only [frzV, hbk]
      rw [(frz_pure 999).2]
      · rfl
      · have := puL_of (n := 30) (xs := bxs b) fun x hx => by
          obtain ⟨q, hq, rfl⟩ := List.mem_map.mp hx
          exact (hba q hq).2.pu
        have e : (bxs b).length = b.length := List.length_map ..
        obtain ⟨m, hm⟩ := Nat.exists_eq_add_of_le (show 30 + (bxs b).length + 1 ≤ 999 by omega)
        rw [hm]
        exact puL_le this m
    refine t_seq (t_frz rfl fz ?_)
    array_mem_dec
    exact ⟨⟨b, rfl, hbl, hnd, hba⟩, w.at hL, f.at⟩
end
end Mi
namespace Mi
local macro_rules | `(tactic| array_mem_dec) => `(tactic| repeat (first | (with_reducible refine t_seq ?_) | (with_reducible refine t_skip ?_) | (with_reducible refine t_asg ?_) | (with_reducible refine t_ret ?_) | (with_reducible refine t_expr ?_) | (with_reducible refine t_put ?_) | (with_reducible refine t_ite ?_) | (with_reducible refine t_for ?_) | (with_reducible refine t_asgT ?_) | ((with_reducible apply v_var); rfl) | ((with_reducible apply b_var); rfl) | ((with_reducible apply i_var); rfl) | (with_reducible refine v_lit ?_) | (with_reducible refine v_ix ?_) | (with_reducible refine v_bin ?_) | (with_reducible refine v_cmp ?_) | (with_reducible refine v_call ?_) | (with_reducible refine v_tup ?_) | (with_reducible refine v_lst ?_) | (with_reducible refine v_new ?_) | (with_reducible refine v_fn ?_) | (with_reducible refine v_isi ?_) | (with_reducible refine v_mt ?_) | (with_reducible refine v_and ?_) | (with_reducible refine v_or ?_) | (with_reducible refine v_not ?_) | (with_reducible refine v_ite ?_) | (with_reducible refine v_neg ?_) | (with_reducible refine v_chain ?_) | (with_reducible refine v_isN ?_) | (with_reducible refine v_isB ?_) | (with_reducible refine v_lc ?_) | (with_reducible refine a_cons ?_) | (with_reducible refine a_nil ?_) | (with_reducible refine b_cmp ?_) | (with_reducible refine b_and ?_) | (with_reducible refine b_or ?_) | (with_reducible refine b_not ?_) | (with_reducible refine b_call ?_) | (with_reducible refine b_isi ?_) | (with_reducible refine b_lit ?_) | (with_reducible refine b_isN ?_) | (with_reducible refine b_isB ?_) | (with_reducible refine b_chain ?_) | (with_reducible refine b_mt ?_) | (with_reducible refine b_fn ?_) | (with_reducible refine i_rng ?_) | (with_reducible refine i_ix ?_) | (with_reducible refine i_fn ?_) | (with_reducible refine i_call ?_) | (with_reducible refine i_bin ?_) | (with_reducible refine i_lst ?_) | (with_reducible refine i_sortK ?_) | (with_reducible refine i_tup ?_) | (with_reducible refine i_lc ?_) | (with_reducible refine v_dcpy ?_) | (with_reducible refine v_lnew ?_) | refine ⟨Nat.le_of_ble_eq_true rfl, ?_⟩ | refine ⟨_, rfl, ?_⟩))
/-- a choice's head -/
def Ch.hd : Ch → Txt
  | .num => kNum
  | .txt => kText
  | .ltr _ => kLetter
  | .cut _ _ => kCut
  | .box b _ => bw b
  | .shp fs => [115, 104, 97, 112, 101, 32] ++ joinT [32] (fs.map (·.1))
  | .som _ => kSome
  | .wit _ => kWith
def Ch.heads (ks : List Ch) : List Txt := sortU (ks.map Ch.hd)
theorem look_b {x : Txt} {ks : List Ch} : ∀ {b : Bd}, (bks b).Nodup → (x, ks) ∈ b → look x (bks b) (bxs b) = some (.tup (Ch.vs ks))
  | [], _, h => by cases h
  | q :: b, nd, h => by
    simp only [bks, bxs, List.map_cons, look] at nd ⊢
    rcases List.mem_cons.mp h with rfl | h
    · rw [if_pos rfl]
    · have ne : q.1 ≠ x := fun e => by
        subst e
        exact (List.nodup_cons.mp nd).1 (List.mem_map.mpr ⟨_, h, rfl⟩)
      rw [if_neg ne]
      exact look_b (List.nodup_cons.mp nd).2 h
theorem COk.hd_len {L N : Txt → Prop} (hN : ∀ f, N f → Word f) : ∀ {d : Nat} {c : Ch}, COk L N d c → c.hd.length ≤ 23 ∧ (∀ fs, c = .shp fs → fs.length ≤ 2 ∧ (joinT [32] (fs.map (·.1))).length ≤ 17)
  | 0, c, h => by cases c <;> first | exact h.elim | exact ⟨Nat.le_of_ble_eq_true rfl, nofun⟩
  | d + 1, c, h => by
    cases c with
    | shp fs =>
      obtain ⟨hl, _, hn, _⟩ := h
      have z : (joinT [32] (fs.map (·.1))).length ≤ 17 := by
        match fs, hl, hn with
        | [a], _, hn =>
          have := (hN _ (hn a.1 (by simp))).len
          simp [joinT]; omega
        | [a, b], _, hn =>
          have := (hN _ (hn a.1 (by simp))).len
          have := (hN _ (hn b.1 (by simp))).len
          simp [joinT]; omega
      refine ⟨by simp only [Ch.hd, List.length_append, List.length_cons, List.length_nil]; omega, fun fs' e => ?_⟩
      cases e
      exact ⟨hl.2, z⟩
    | box b ks => cases b <;> exact ⟨Nat.le_of_ble_eq_true rfl, nofun⟩
    | num => exact ⟨Nat.le_of_ble_eq_true rfl, nofun⟩
    | txt => exact ⟨Nat.le_of_ble_eq_true rfl, nofun⟩
    | ltr x => exact ⟨Nat.le_of_ble_eq_true rfl, nofun⟩
    | _ => exact h.elim
section
variable {p : Prg} {c : Cst} (hc : Cok c) (ho : p.fns[15]? = some d_law_head_of) (hs : p.fns[16]? = some d_law_heads_of)
include ho in
theorem head_ok (m : Nat) (st : Store) (ch : Ch) (hl : ∀ fs, ch = .shp fs → fs.length ≤ 1000 ∧ (joinT [32] (fs.map (·.1))).length ≤ 10000) : Ret (callN p (m + 1) 15 [ch.v] st) fun v s => v = .str ch.hd ∧ s = st := by
  refine call_of ho rfl ?_
  simp only [d_law_head_of, List.map_cons, List.map_nil, List.length_cons, List.length_nil, List.cons_append, List.nil_append, Nat.reduceAdd, Nat.reduceSub, Nat.zero_add, Nat.add_zero, Nat.sub_self, Nat.sub_zero, List.replicate]
  cases ch with
  | shp fs =>
    simp only [Ch.v]
    array_mem_dec
    refine ⟨fun _ => ?_, nofun⟩
    array_mem_dec
    refine ⟨rfl, ?_⟩
    array_mem_dec
    rw [ckN]
    simp only [Ch.fs_map]
    refine lc_map Ch.fd (fun f => .str f.1) _ _ (fun f hf => ⟨_, rfl, fun _ => rfl, ?_⟩) ?_ ?_
    · obtain ⟨f, ks⟩ := f
      array_mem_dec
      exact ⟨rfl, rfl⟩
    · have := (hl fs rfl).1
      simp only [List.length_nil, show PySem.sizeLine = 16777216 from rfl]
      omega
    array_mem_dec
    have e : ([] ++ fs.map fun f => Val.str f.1) = (fs.map (·.1)).map .str := by rw [List.map_map]; rfl
    rw [e]
    refine ⟨(.str (joinT [32] (fs.map (·.1))), st), join_ok (hl fs rfl).2 (by decide), ?_⟩
    refine ⟨_, add_str (by have := (hl fs rfl).2; simp only [List.length_cons, List.length_nil]; omega), ?_⟩
    exact ⟨rfl, rfl⟩
  | box b ks =>
    cases b <;> simp only [Ch.v]
    all_goals
      array_mem_dec
      refine ⟨nofun, fun _ => ?_⟩
      array_mem_dec
      exact ⟨rfl, rfl⟩
  | _ =>
    simp only [Ch.v]
    array_mem_dec
    refine ⟨nofun, fun _ => ?_⟩
    array_mem_dec
    exact ⟨rfl, rfl⟩
end
end Mi
namespace Mi
local macro_rules | `(tactic| array_mem_dec) => `(tactic| repeat (first | (with_reducible refine t_seq ?_) | (with_reducible refine t_skip ?_) | (with_reducible refine t_asg ?_) | (with_reducible refine t_ret ?_) | (with_reducible refine t_expr ?_) | (with_reducible refine t_put ?_) | (with_reducible refine t_ite ?_) | (with_reducible refine t_for ?_) | (with_reducible refine t_asgT ?_) | ((with_reducible apply v_var); rfl) | ((with_reducible apply b_var); rfl) | ((with_reducible apply i_var); rfl) | (with_reducible refine v_lit ?_) | (with_reducible refine v_ix ?_) | (with_reducible refine v_bin ?_) | (with_reducible refine v_cmp ?_) | (with_reducible refine v_call ?_) | (with_reducible refine v_tup ?_) | (with_reducible refine v_lst ?_) | (with_reducible refine v_new ?_) | (with_reducible refine v_fn ?_) | (with_reducible refine v_isi ?_) | (with_reducible refine v_mt ?_) | (with_reducible refine v_and ?_) | (with_reducible refine v_or ?_) | (with_reducible refine v_not ?_) | (with_reducible refine v_ite ?_) | (with_reducible refine v_neg ?_) | (with_reducible refine v_chain ?_) | (with_reducible refine v_isN ?_) | (with_reducible refine v_isB ?_) | (with_reducible refine v_lc ?_) | (with_reducible refine a_cons ?_) | (with_reducible refine a_nil ?_) | (with_reducible refine b_cmp ?_) | (with_reducible refine b_and ?_) | (with_reducible refine b_or ?_) | (with_reducible refine b_not ?_) | (with_reducible refine b_call ?_) | (with_reducible refine b_isi ?_) | (with_reducible refine b_lit ?_) | (with_reducible refine b_isN ?_) | (with_reducible refine b_isB ?_) | (with_reducible refine b_chain ?_) | (with_reducible refine b_mt ?_) | (with_reducible refine b_fn ?_) | (with_reducible refine i_rng ?_) | (with_reducible refine i_ix ?_) | (with_reducible refine i_fn ?_) | (with_reducible refine i_call ?_) | (with_reducible refine i_bin ?_) | (with_reducible refine i_lst ?_) | (with_reducible refine i_sortK ?_) | (with_reducible refine i_tup ?_) | (with_reducible refine i_lc ?_) | (with_reducible refine v_dcpy ?_) | (with_reducible refine v_lnew ?_) | refine ⟨Nat.le_of_ble_eq_true rfl, ?_⟩ | refine ⟨_, rfl, ?_⟩))
theorem cut_nat {α : Type} {xs : List α} {a b : Nat} : cut xs (some (a : Int)) (some (b : Int)) = (xs.drop (min a xs.length)).take (min b xs.length - min a xs.length) := by
  simp only [cut, HT.sIx_nat]
theorem tuple_ok {st : Store} {xs : List Val} : fnV st .tuple [.lst xs] = some (.tup xs) := rfl
section
variable {p : Prg} {c : Cst} (hc : Cok c) (hp : p.fns[9]? = some d_law_taken) (hw : p.fns[10]? = some d_law_word) (hk : p.fns[11]? = some d_law_kind) (hh : p.fns[12]? = some d_law_choice) (hf : p.fns[13]? = some d_law_fields)
  (ho : p.fns[15]? = some d_law_head_of) (hs : p.fns[16]? = some d_law_heads_of) (hcut : p.fns[22]? = some d_law_cut) (hany : p.fns[23]? = some d_law_any_kind)
include hc ho hs in
theorem heads_ok (m n : Nat) (st : Store) (b : Bd) (hb : BOk c n b) (x : Txt) (ks : List Ch) (hx : (x, ks) ∈ b) :
    Ret (callN p (m + 2) 16 [(Ch.ltr x).v, .dct (bks b) (bxs b)] st) fun v s => v = .tup ((Ch.heads ks).map .str) ∧ s = st := by
  have hk : KOk (· ∈ ([] : List Txt)) (Nw c) 1 ks := (hb.all _ hx).2
  refine call_of hs rfl ?_
  simp only [d_law_heads_of, List.map_cons, List.map_nil, List.length_cons, List.length_nil, List.cons_append, List.nil_append, Nat.reduceAdd, Nat.reduceSub, Nat.zero_add, Nat.add_zero, Nat.sub_self, Nat.sub_zero, List.replicate]
  simp only [Ch.v]
  array_mem_dec
  refine ⟨nofun, fun _ => ?_⟩
  array_mem_dec
  refine ⟨_, look_b hb.nd hx, ?_⟩
  array_mem_dec
  rw [ckN]
  simp only [Ch.vs_map]
  refine lc_map Ch.v (fun k => .str k.hd) _ _ (fun k hk' => ⟨_, rfl, fun _ => rfl, ?_⟩) ?_ ?_
  · array_mem_dec
    refine head_ok ho m st k fun fs e => ?_
    have := ((hk.2 k hk').hd_len (Nw.word hc)).2 fs e
    omega
  · have := hk.1.2
    simp only [List.length_nil, show PySem.sizeLine = 16777216 from rfl]
    omega
  array_mem_dec
  have e : ([] ++ ks.map fun k => Val.str k.hd) = (ks.map Ch.hd).map .str := by rw [List.map_map]; rfl
  rw [e]
  refine ⟨_, ssort_ok (by have := hk.1.2; rw [List.length_map]; omega), ?_⟩
  array_mem_dec
  exact ⟨rfl, rfl⟩
/-- a letter, or a cut of its bound's heads -/
def CutOk (b : Bd) (ch : Ch) : Prop := ∃ x ks, (x, ks) ∈ b ∧ (ch = .ltr x ∨ ∃ i j : Nat, 1 ≤ j ∧ j < (Ch.heads ks).length ∧ i + j ≤ (Ch.heads ks).length ∧ ch = .cut x (((Ch.heads ks).drop i).take j))
include hc hp ho hs hcut in
theorem cut_ok (m n : Nat) (st : Store) (h : Dw c st) (b : Bd) (hb : BOk c n b) (hn : n ≤ 10) (h0 : b ≠ []) :
    Ret (callN p (m + 3) 22 [.loc 0, .dct (bks b) (bxs b)] st) fun v s => (∃ ch, v = Ch.v ch ∧ CutOk b ch) ∧ Dw c s ∧ Fr st s := by
  have hbl := hb.len
  have hpos : 0 < b.length := List.length_pos_iff.mpr h0
  have lk : (bks b).length = b.length := List.length_map ..
  have lx : (bxs b).length = b.length := List.length_map ..
  refine call_of hcut rfl ?_
  simp only [d_law_cut, List.map_cons, List.map_nil, List.length_cons, List.length_nil, List.cons_append, List.nil_append, Nat.reduceAdd, Nat.reduceSub, Nat.zero_add, Nat.add_zero, Nat.sub_self, Nat.sub_zero, List.replicate]
  array_mem_dec
  refine (taken_ok (n := m + 1) (m := ((bxs b).length : Int)) hp h (by omega) (by omega)).imp fun v s1 ⟨⟨i1, e1, l1, m1⟩, w1, f1⟩ => ?_
  subst e1
  obtain ⟨v, hv, ev⟩ := at_nat (xs := (bks b).map .str) l1 (by rw [List.length_map]; omega)
  obtain ⟨x, hx, rfl⟩ := List.mem_map.mp hv
  obtain ⟨⟨x', ks⟩, hq, rfl⟩ := List.mem_map.mp hx
  refine ⟨_, ev, ?_⟩
  array_mem_dec
  refine (heads_ok hc ho hs m n s1 b hb x' ks hq).imp fun v s2 ⟨e1, e2⟩ => ?_
  subst e1 e2
  have el : ((Ch.heads ks).map Val.str).length = (Ch.heads ks).length := List.length_map ..
  have hk3 : (Ch.heads ks).length ≤ 3 := by
    have h1 := sortU_len (ks.map Ch.hd)
    have h2 := (hb.all _ hq).2.1.2
    rw [List.length_map] at h1
    exact Nat.le_trans h1 h2
  array_mem_dec
  refine ⟨fun _ => ?_, fun e => ?_⟩
  · array_mem_dec
    exact ⟨⟨.ltr x', rfl, x', ks, hq, .inl rfl⟩, w1, f1⟩
  have e2 : ¬ (((Ch.heads ks).map Val.str).length : Int) < 2 := of_decide_eq_false e
  array_mem_dec
  refine (taken_ok (n := m + 1) (m := (((Ch.heads ks).map Val.str).length : Int) - 1) hp w1 (by omega) (by omega)).imp fun v s3 ⟨⟨i2, e3, l2, m2⟩, w2, f2⟩ => ?_
  subst e3
  array_mem_dec
  refine (taken_ok (n := m + 1) (m := (((Ch.heads ks).map Val.str).length : Int) - (1 + i2) + 1) hp w2 (by omega) (by omega)).imp fun v s4 ⟨⟨i3, e4, l3, m3⟩, w3, f3⟩ => ?_
  subst e4
  array_mem_dec
  obtain ⟨a, rfl⟩ := Int.eq_ofNat_of_zero_le l3
  obtain ⟨q, rfl⟩ := Int.eq_ofNat_of_zero_le l2
  refine v_sl ?_
  array_mem_dec
  refine o_var rfl (o_bin ?_)
  array_mem_dec
  refine ⟨⟨.cut x' (((Ch.heads ks).drop a).take (1 + q)), ?_, x', ks, hq, .inr ⟨a, 1 + q, by omega, by omega, by omega, rfl⟩⟩, w3, f1.trans (f2.trans f3)⟩
  have e5 : ((a : Int) + (1 + (q : Int))) = ((a + (1 + q) : Nat) : Int) := by omega
  have e6 : cut ((Ch.heads ks).map Val.str) (some (a : Int)) (some ((a : Int) + (1 + (q : Int)))) = (((Ch.heads ks).drop a).take (1 + q)).map .str := by
    rw [e5, cut_nat, List.map_take, List.map_drop]
    rw [show min a ((Ch.heads ks).map Val.str).length = a by omega, show min (a + (1 + q)) ((Ch.heads ks).map Val.str).length = a + (1 + q) by omega, show a + (1 + q) - a = 1 + q by omega]
  show Val.tup [.str kCut, .str x', .tup (cut _ _ _)] = _
  rw [Ch.v, e6]
end
end Mi
namespace Mi
local macro_rules | `(tactic| array_mem_dec) => `(tactic| repeat (first | (with_reducible refine t_seq ?_) | (with_reducible refine t_skip ?_) | (with_reducible refine t_asg ?_) | (with_reducible refine t_ret ?_) | (with_reducible refine t_expr ?_) | (with_reducible refine t_put ?_) | (with_reducible refine t_ite ?_) | (with_reducible refine t_for ?_) | (with_reducible refine t_asgT ?_) | ((with_reducible apply v_var); rfl) | ((with_reducible apply b_var); rfl) | ((with_reducible apply i_var); rfl) | (with_reducible refine v_lit ?_) | (with_reducible refine v_ix ?_) | (with_reducible refine v_bin ?_) | (with_reducible refine v_cmp ?_) | (with_reducible refine v_call ?_) | (with_reducible refine v_tup ?_) | (with_reducible refine v_lst ?_) | (with_reducible refine v_new ?_) | (with_reducible refine v_fn ?_) | (with_reducible refine v_isi ?_) | (with_reducible refine v_mt ?_) | (with_reducible refine v_and ?_) | (with_reducible refine v_or ?_) | (with_reducible refine v_not ?_) | (with_reducible refine v_ite ?_) | (with_reducible refine v_neg ?_) | (with_reducible refine v_chain ?_) | (with_reducible refine v_isN ?_) | (with_reducible refine v_isB ?_) | (with_reducible refine v_lc ?_) | (with_reducible refine a_cons ?_) | (with_reducible refine a_nil ?_) | (with_reducible refine b_cmp ?_) | (with_reducible refine b_and ?_) | (with_reducible refine b_or ?_) | (with_reducible refine b_not ?_) | (with_reducible refine b_call ?_) | (with_reducible refine b_isi ?_) | (with_reducible refine b_lit ?_) | (with_reducible refine b_isN ?_) | (with_reducible refine b_isB ?_) | (with_reducible refine b_chain ?_) | (with_reducible refine b_mt ?_) | (with_reducible refine b_fn ?_) | (with_reducible refine i_rng ?_) | (with_reducible refine i_ix ?_) | (with_reducible refine i_fn ?_) | (with_reducible refine i_call ?_) | (with_reducible refine i_bin ?_) | (with_reducible refine i_lst ?_) | (with_reducible refine i_sortK ?_) | (with_reducible refine i_tup ?_) | (with_reducible refine i_lc ?_) | (with_reducible refine v_dcpy ?_) | (with_reducible refine v_lnew ?_) | refine ⟨Nat.le_of_ble_eq_true rfl, ?_⟩ | refine ⟨_, rfl, ?_⟩))
theorem add_tup {st : Store} {xs ys : List Val} (h : xs.length + ys.length ≤ 1000) : binV st .add (.tup xs) (.tup ys) = some (.tup (xs ++ ys)) := by
  simp only [binV, addV]; rw [if_pos (Nat.le_trans h (by decide))]
theorem Ch.vs_app (a b : List Ch) : Ch.vs (a ++ b) = Ch.vs a ++ Ch.vs b := by simp [Ch.vs_map]
theorem Ch.vs_len (a : List Ch) : (Ch.vs a).length = a.length := by simp [Ch.vs_map]
def AnyOk (c : Cst) (b : Bd) (d : Nat) (ks : List Ch) : Prop := ∃ ks0 cs, ks = ks0 ++ cs ∧ KOk (· ∈ bks b) (Nw c) d ks0 ∧ (cs = [] ∨ ∃ ch, cs = [ch] ∧ CutOk b ch)
section
variable {p : Prg} {c : Cst} (hc : Cok c) (hp : p.fns[9]? = some d_law_taken) (hw : p.fns[10]? = some d_law_word) (hk : p.fns[11]? = some d_law_kind) (hh : p.fns[12]? = some d_law_choice) (hf : p.fns[13]? = some d_law_fields)
  (ho : p.fns[15]? = some d_law_head_of) (hs : p.fns[16]? = some d_law_heads_of) (hcut : p.fns[22]? = some d_law_cut) (hany : p.fns[23]? = some d_law_any_kind)
include hc hp hw hk hh hf ho hs hcut hany in
theorem any_ok (m n d : Nat) (st : Store) (h : Dw c st) (b : Bd) (hb : BOk c n b) (hn : n ≤ 10) :
    Ret (callN p (m + (3 * d + 3) + 1) 23 [.loc 0, .int d, .dct (bks b) (bxs b)] st) fun v s => (∃ ks, v = .tup (Ch.vs ks) ∧ AnyOk c b d ks) ∧ Dw c s ∧ Fr st s := by
  have hbl := hb.len
  have lk : (bks b).length = b.length := List.length_map ..
  have lx : (bxs b).length = b.length := List.length_map ..
  refine call_of hany rfl ?_
  simp only [d_law_any_kind, List.map_cons, List.map_nil, List.length_cons, List.length_nil, List.cons_append, List.nil_append, Nat.reduceAdd, Nat.reduceSub, Nat.zero_add, Nat.add_zero, Nat.sub_self, Nat.sub_zero, List.replicate]
  array_mem_dec
  refine (kind_at hc hp hw hk hh hf (bks b) (by omega) d m st h).imp fun v s1 ⟨⟨ks, e1, hks⟩, w1, f1⟩ => ?_
  subst e1
  have hl3 := hks.1.2
  refine t_cut (fun η s => ∃ ks, η = [some (.loc 0), some (.int d), some (.dct (bks b) (bxs b)), some (.tup (Ch.vs ks))] ∧ AnyOk c b d ks ∧ Dw c s ∧ Fr st s) ?_ ?_
  · array_mem_dec
    refine ⟨fun e => ?_, fun _ => ?_⟩
    · have e' : (0 : Int) < (bxs b).length := of_decide_eq_true e
      array_mem_dec
      refine (taken_ok (n := m + (3 * d + 2)) (m := 2) hp w1 (by decide) (by decide)).imp fun v s2 ⟨⟨i1, e1, l1, m1⟩, w2, f2⟩ => ?_
      subst e1
      array_mem_dec
      refine ⟨fun _ => ?_, fun _ => ?_⟩
      · array_mem_dec
        have cc := cut_ok hc hp ho hs hcut (m + 3 * d) n s2 w2 b hb hn (by intro z; subst z; simp [bxs] at e')
        refine cc.imp fun v s3 ⟨⟨ch, ev, hch⟩, w3, f3⟩ => ?_
        subst ev
        array_mem_dec
        refine ⟨_, add_tup (by rw [Ch.vs_len]; simp only [List.length_cons, List.length_nil]; omega), ?_⟩
        refine t_skip ?_
        refine ⟨ks ++ [ch], by rw [Ch.vs_app]; rfl, ⟨ks, [ch], rfl, hks, .inr ⟨ch, rfl, hch⟩⟩, w3, f1.trans (f2.trans f3)⟩
      · array_mem_dec
        exact ⟨⟨ks, [], by simp, hks, .inl rfl⟩, w2, f1.trans f2⟩
    · refine ⟨nofun, fun _ => ?_⟩
      array_mem_dec
      exact ⟨⟨ks, [], by simp, hks, .inl rfl⟩, w1, f1⟩
  rintro η s ⟨ks', rfl, ha, w, f⟩
  array_mem_dec
  exact ⟨⟨ks', rfl, ha⟩, w, f⟩
end
end Mi
namespace Mi
theorem sort_ok {st : Store} {ts : List Txt} (h : ts.length < 64) : fnV st .sorted [.lst (ts.map .str)] = some (.lst ((sortT ts).map .str)) := by
  simp only [fnV, asL, Option.bind, strs_all, if_pos h]
theorem perm_of_sub : ∀ {ls ks : List Txt}, ls.Nodup → (∀ l ∈ ls, l ∈ ks) → ks.length ≤ ls.length → ls.Perm ks
  | [], ks, _, _, h => by
    have : ks = [] := List.length_eq_zero_iff.mp (by simpa using h)
    rw [this]
  | l :: ls, ks, nd, sub, h => by
    have m : l ∈ ks := sub l (by simp)
    obtain ⟨n1, n2⟩ := List.nodup_cons.mp nd
    have ih := perm_of_sub (ls := ls) (ks := ks.erase l) n2 (fun x hx => (List.mem_erase_of_ne (fun e => by subst e; exact n1 hx)).mpr (sub x (by simp [hx]))) (by
      rw [List.length_erase_of_mem m]; simp at h; omega)
    exact (ih.cons l).trans (List.perm_cons_erase m).symm
theorem sort_iff {ks ls : List Txt} (n1 : ks.Nodup) (n2 : ls.Nodup) : sortT ks = sortT ls ↔ ks.length = ls.length ∧ ∀ l ∈ ls, l ∈ ks := by
  constructor
  · intro e
    have p : ls.Perm ks := (sortT_perm ls).symm.trans (e ▸ sortT_perm ks)
    exact ⟨p.length_eq.symm, fun l hl => p.mem_iff.mp hl⟩
  · rintro ⟨h1, h2⟩
    have p := perm_of_sub n2 h2 (by omega)
    exact sort_uniq (sortT_sorted ks) (sortT_sorted ls) ((sortT_perm ks).trans (p.symm.trans (sortT_perm ls).symm))
theorem look_some {k : Txt} : ∀ {ks : List Txt} {xs : List Val}, ks.length = xs.length → k ∈ ks → ∃ x ∈ xs, look k ks xs = some x
  | [], _, _, h => by cases h
  | a :: ks, [], h, _ => by simp at h
  | a :: ks, x :: xs, h, m => by
    by_cases e : a = k
    · exact ⟨x, by simp, by simp [look, e]⟩
    · have m : k ∈ ks := by
        rcases List.mem_cons.mp m with z | z
        · exact absurd z.symm e
        · exact z
      obtain ⟨y, hy, q⟩ := look_some (ks := ks) (xs := xs) (by simpa using h) m
      exact ⟨y, by simp [hy], by simp [look, e, q]⟩
theorem look_no {k : Txt} : ∀ {ks : List Txt} {xs : List Val}, k ∉ ks → look k ks xs = none
  | [], _, _ => by simp [look]
  | a :: ks, [], _ => by simp [look]
  | a :: ks, x :: xs, h => by
    have e : a ≠ k := fun e => h (by simp [e])
    simp only [look, if_neg e]
    exact look_no fun z => h (by simp [z])
theorem look_nd {k : Txt} {y : Val} : ∀ {ks : List Txt} {ys : List Val} {j : Nat}, ks.Nodup → ks[j]? = some k → ys[j]? = some y → look k ks ys = some y := look_at
theorem look_mem {k : Txt} {x : Val} : ∀ {ks : List Txt} {xs : List Val}, look k ks xs = some x → k ∈ ks ∧ x ∈ xs
  | [], _, h => by simp [look] at h
  | _ :: _, [], h => by simp [look] at h
  | a :: ks, b :: xs, h => by
    simp only [look] at h
    split at h
    · rename_i e; cases h; exact ⟨by simp [e], by simp⟩
    · obtain ⟨h1, h2⟩ := look_mem h
      exact ⟨by simp [h1], by simp [h2]⟩
theorem at_getD {xs : List Val} {k : Nat} (h : k < xs.length) : L2.atI xs (k : Int) = some (xs.getD k .non) := by
  simp [L2.atI, L2.ixN, h]
theorem getD_mem {xs : List Val} {k : Nat} (h : k < xs.length) : xs.getD k .non ∈ xs := by
  simp [List.getD, h]
theorem splitC_one {c : Nat} : ∀ {a : Txt}, c ∉ a → splitC c a = [a]
  | [], _ => rfl
  | x :: a, h => by
    have e : ¬ x = c := fun z => h (by simp [z])
    simp only [splitC, if_neg e, splitC_one (c := c) (a := a) fun z => h (by simp [z])]
theorem splitC_app {c : Nat} {r : Txt} : ∀ {a : Txt}, c ∉ a → splitC c (a ++ c :: r) = a :: splitC c r
  | [], _ => by simp [splitC]
  | x :: a, h => by
    have e : ¬ x = c := fun z => h (by simp [z])
    simp only [List.cons_append, splitC, if_neg e, splitC_app (c := c) (a := a) fun z => h (by simp [z])]
theorem splitC_joinT {c : Nat} : ∀ {ws : List Txt}, ws ≠ [] → (∀ w ∈ ws, c ∉ w) → splitC c (joinT [c] ws) = ws
  | [], h, _ => absurd rfl h
  | [w], _, h => splitC_one (h w (by simp))
  | w :: v :: r, _, h => by
    show splitC c (w ++ [c] ++ joinT [c] (v :: r)) = _
    rw [List.append_assoc, List.singleton_append, splitC_app (h w (by simp)), splitC_joinT (by simp) fun x hx => h x (by simp at hx ⊢; exact .inr hx)]
theorem join_inj {ws vs : List Txt} (h1 : ws ≠ []) (h2 : vs ≠ []) (f1 : ∀ w ∈ ws, 32 ∉ w) (f2 : ∀ w ∈ vs, 32 ∉ w) (e : joinT [32] ws = joinT [32] vs) : ws = vs := by
  rw [← splitC_joinT h1 f1, e, splitC_joinT h2 f2]
theorem Word.free {t : Txt} (h : Word t) : 32 ∉ t := fun z => by
  have := h.low 32 z
  omega
end Mi
namespace Mi
theorem cut_to {α : Type} {xs : List α} (n : Nat) : cut xs none (some (n : Int)) = xs.take n := by
  simp only [cut, HT.sIx_nat]
  show ((xs.drop 0).take (min n xs.length - 0)) = xs.take n
  rw [List.drop_zero, Nat.sub_zero, List.take_eq_take_iff]; omega
theorem cut_from {α : Type} {xs : List α} (n : Nat) : cut xs (some (n : Int)) none = xs.drop n := by
  simp only [cut, HT.sIx_nat]
  show ((xs.drop (min n xs.length)).take (xs.length - min n xs.length)) = xs.drop n
  rw [List.take_of_length_le (by simp)]
  by_cases h : n ≤ xs.length
  · rw [Nat.min_eq_left h]
  · rw [Nat.min_eq_right (by omega), List.drop_length, List.drop_of_length_le (by omega)]
theorem lc_val {η : Env} {st : Store} {tg : Tg} {T : Env → Store → Res Bool} {E : Env → Store → Res Val} (f : Val → Val) {R : List Val → Store → Prop} (xs acc : List Val)
    (h : ∀ a ∈ xs, ∃ η1, asgTg tg a η = some η1 ∧ (∀ s, T η1 s = .ok true s) ∧ Ret (E η1 st) fun v s => v = f a ∧ s = st) (hl : acc.length + xs.length ≤ PySem.sizeLine) (r : R (acc ++ xs.map f) st) :
    Ret (lcLoop (fun _ => true) tg η T E xs acc st) R := by
  have := lc_map (T := T) (E := E) (tg := tg) (η := η) (st := st) (R := R) (fun x : Val => x) f xs acc h hl r
  rwa [List.map_id'] at this
theorem in_strs {st : Store} {f : Txt} : ∀ {ts : List Txt}, inV' st (.str f) (ts.map .str) = some (decide (f ∈ ts))
  | [] => by simp [inV']
  | t :: ts => by
    have e : eqv st 60 (.str t) (.str f) = some (t == f) := rfl
    simp only [List.map_cons, inV', e, in_strs (ts := ts), Option.bind_some, Option.map_some]
    congr 1
    rw [Bool.eq_iff_iff, Bool.or_eq_true, beq_iff_eq, decide_eq_true_eq, decide_eq_true_eq, List.mem_cons]
    exact ⟨fun h => h.imp Eq.symm id, fun h => h.imp Eq.symm id⟩
theorem pre_take (a h : Txt) : a.isPrefixOf h = (h.take a.length == a) := by
  rw [Bool.eq_iff_iff, List.isPrefixOf_iff_prefix, beq_iff_eq, List.prefix_iff_eq_take]
  exact eq_comm
theorem fs_at {fs : List (Txt × List Ch)} {k : Nat} (h : k < fs.length) : L2.atI (Ch.fs fs) (k : Int) = some (.tup [.str (fs.getD k ([], [])).1, .tup (Ch.vs (fs.getD k ([], [])).2)]) := by
  have : k < (Ch.fs fs).length := by rw [Ch.fs_map, List.length_map]; exact h
  rw [at_getD this]
  congr 1
  simp only [Ch.fs_map, List.getD, List.getElem?_map, List.getElem?_eq_getElem h, Option.map_some, Option.getD_some]
  rcases fs[k] with ⟨f, ks⟩
  rfl
end Mi
namespace Mi
local macro_rules | `(tactic| array_mem_dec) => `(tactic| repeat (first | (with_reducible refine t_seq ?_) | (with_reducible refine t_skip ?_) | (with_reducible refine t_asg ?_) | (with_reducible refine t_ret ?_) | (with_reducible refine t_expr ?_) | (with_reducible refine t_put ?_) | (with_reducible refine t_ite ?_) | (with_reducible refine t_for ?_) | (with_reducible refine t_asgT ?_) | ((with_reducible apply v_var); rfl) | ((with_reducible apply b_var); rfl) | ((with_reducible apply i_var); rfl) | (with_reducible refine v_lit ?_) | (with_reducible refine v_ix ?_) | (with_reducible refine v_bin ?_) | (with_reducible refine v_cmp ?_) | (with_reducible refine v_call ?_) | (with_reducible refine v_tup ?_) | (with_reducible refine v_lst ?_) | (with_reducible refine v_new ?_) | (with_reducible refine v_fn ?_) | (with_reducible refine v_isi ?_) | (with_reducible refine v_mt ?_) | (with_reducible refine v_and ?_) | (with_reducible refine v_or ?_) | (with_reducible refine v_not ?_) | (with_reducible refine v_ite ?_) | (with_reducible refine v_neg ?_) | (with_reducible refine v_chain ?_) | (with_reducible refine v_isN ?_) | (with_reducible refine v_isB ?_) | (with_reducible refine v_lc ?_) | (with_reducible refine a_cons ?_) | (with_reducible refine a_nil ?_) | (with_reducible refine b_cmp ?_) | (with_reducible refine b_and ?_) | (with_reducible refine b_or ?_) | (with_reducible refine b_not ?_) | (with_reducible refine b_call ?_) | (with_reducible refine b_isi ?_) | (with_reducible refine b_lit ?_) | (with_reducible refine b_isN ?_) | (with_reducible refine b_isB ?_) | (with_reducible refine b_chain ?_) | (with_reducible refine b_mt ?_) | (with_reducible refine b_fn ?_) | (with_reducible refine i_rng ?_) | (with_reducible refine i_ix ?_) | (with_reducible refine i_fn ?_) | (with_reducible refine i_call ?_) | (with_reducible refine i_bin ?_) | (with_reducible refine i_lst ?_) | (with_reducible refine i_sortK ?_) | (with_reducible refine i_tup ?_) | (with_reducible refine i_lc ?_) | (with_reducible refine v_dcpy ?_) | (with_reducible refine v_lnew ?_) | refine ⟨Nat.le_of_ble_eq_true rfl, ?_⟩ | refine ⟨_, rfl, ?_⟩))
section
variable {p : Prg} (hc : p.fns[3]? = some d_head_of_choice)
include hc in
theorem hoc_ok (m : Nat) (st : Store) (ch : Ch) (hl : ∀ fs, ch = .shp fs → fs.length ≤ 1000 ∧ (joinT [32] (fs.map (·.1))).length ≤ 10000) : Ret (callN p (m + 1) 3 [ch.v] st) fun v s => v = .str ch.hd ∧ s = st := by
  refine call_of hc rfl ?_
  simp only [d_head_of_choice, List.map_cons, List.map_nil, List.length_cons, List.length_nil, List.cons_append, List.nil_append, Nat.reduceAdd, Nat.reduceSub, Nat.zero_add, Nat.add_zero, Nat.sub_self, Nat.sub_zero, List.replicate]
  cases ch with
  | shp fs =>
    simp only [Ch.v]
    array_mem_dec
    refine iteT ?_
    array_mem_dec
    refine ⟨rfl, ?_⟩
    array_mem_dec
    rw [ckN]
    simp only [Ch.fs_map]
    refine lc_map Ch.fd (fun f => .str f.1) _ _ (fun f hf => ?_) ?_ ?_
    · obtain ⟨f, ks⟩ := f
      refine ⟨_, rfl, fun _ => rfl, ?_⟩
      array_mem_dec
      exact ⟨rfl, rfl⟩
    · have := (hl fs rfl).1
      simp only [List.length_nil, show PySem.sizeLine = 16777216 from rfl]
      omega
    array_mem_dec
    have e : ([] ++ fs.map fun f => Val.str f.1) = (fs.map (·.1)).map .str := by rw [List.map_map]; rfl
    rw [e]
    refine ⟨(.str (joinT [32] (fs.map (·.1))), st), join_ok (hl fs rfl).2 (by decide), ?_⟩
    refine ⟨_, add_str (by have := (hl fs rfl).2; simp only [List.length_cons, List.length_nil]; omega), ?_⟩
    exact ⟨rfl, rfl⟩
  | box b ks =>
    cases b <;> simp only [Ch.v]
    all_goals
      array_mem_dec
      refine iteF ?_
      array_mem_dec
      exact ⟨rfl, rfl⟩
  | _ =>
    simp only [Ch.v]
    array_mem_dec
    refine iteF ?_
    array_mem_dec
    exact ⟨rfl, rfl⟩
end
end Mi
namespace Mi
/-! the text of a kind tells the kind -/
def Upw (t : Txt) : Prop := t ≠ [] ∧ ∀ x ∈ t, 65 ≤ x ∧ x ≤ 90
/-- what may stand behind a choice -/
def Stop (r : Txt) : Prop := ∀ x s, r = x :: s → x = 41 ∨ x = 125 ∨ x = 32 ∨ x = 44
/-- what may stand behind a kind -/
def Stop2 (r : Txt) : Prop := ∀ x s, r = x :: s → x = 41 ∨ x = 125 ∨ x = 44
/-- behind a word comes no sign of it -/
theorem word_split {P : Nat → Prop} : ∀ {a b s t : Txt}, (∀ x ∈ a, P x) → (∀ x ∈ b, P x) → (∀ x r, s = x :: r → ¬ P x) → (∀ x r, t = x :: r → ¬ P x) → a ++ s = b ++ t → a = b ∧ s = t
  | [], [], _, _, _, _, _, _, e => ⟨rfl, e⟩
  | [], y :: b, s, t, _, hb, hs, _, e => absurd (hb y (by simp)) (hs y (b ++ t) e)
  | x :: a, [], s, t, ha, _, _, ht, e => absurd (ha x (by simp)) (ht x (a ++ s) e.symm)
  | x :: a, y :: b, s, t, ha, hb, hs, ht, e => by
    simp only [List.cons_append, List.cons.injEq] at e
    obtain ⟨rfl, e⟩ := e
    obtain ⟨rfl, h⟩ := word_split (fun z hz => ha z (by simp [hz])) (fun z hz => hb z (by simp [hz])) hs ht e
    exact ⟨rfl, h⟩
def HsOk (hs : List Txt) : Prop := hs ≠ [] ∧ ∀ h ∈ hs, ∀ x ∈ h, x ≠ 44 ∧ x ≠ 41
theorem heads_split : ∀ {hs gs : List Txt} {s t : Txt}, HsOk hs → HsOk gs → joinT [44, 32] hs ++ 41 :: s = joinT [44, 32] gs ++ 41 :: t → hs = gs ∧ s = t
  | [], _, _, _, h, _, _ => absurd rfl h.1
  | _, [], _, _, _, h, _ => absurd rfl h.1
  | [a], [b], s, t, h1, h2, e => by
    obtain ⟨rfl, e⟩ := word_split (P := fun x => x ≠ 44 ∧ x ≠ 41) (h1.2 a (by simp)) (h2.2 b (by simp)) (fun x r e => by cases e; simp) (fun x r e => by cases e; simp) e
    exact ⟨rfl, by simpa using e⟩
  | [a], b :: b2 :: bs, s, t, h1, h2, e => by
    simp only [joinT, List.append_assoc] at e
    obtain ⟨_, e⟩ := word_split (P := fun x => x ≠ 44 ∧ x ≠ 41) (h1.2 a (by simp)) (h2.2 b (by simp)) (fun x r e => by cases e; simp) (fun x r e => by cases e; simp) e
    simp at e
  | a :: a2 :: as, [b], s, t, h1, h2, e => by
    simp only [joinT, List.append_assoc] at e
    obtain ⟨_, e⟩ := word_split (P := fun x => x ≠ 44 ∧ x ≠ 41) (h1.2 a (by simp)) (h2.2 b (by simp)) (fun x r e => by cases e; simp) (fun x r e => by cases e; simp) e
    simp at e
  | a :: a2 :: as, b :: b2 :: bs, s, t, h1, h2, e => by
    simp only [joinT, List.append_assoc] at e
    obtain ⟨rfl, e⟩ := word_split (P := fun x => x ≠ 44 ∧ x ≠ 41) (h1.2 a (by simp)) (h2.2 b (by simp)) (fun x r e => by cases e; simp) (fun x r e => by cases e; simp) e
    have e : joinT [44, 32] (a2 :: as) ++ 41 :: s = joinT [44, 32] (b2 :: bs) ++ 41 :: t := by simpa using e
    obtain ⟨e1, e2⟩ := heads_split ⟨by simp, fun h hh => h1.2 h (by simp at hh ⊢; exact .inr hh)⟩ ⟨by simp, fun h hh => h2.2 h (by simp at hh ⊢; exact .inr hh)⟩ e
    exact ⟨by rw [e1], e2⟩
/-- a choice that can be told -/
def TC : Nat → Ch → Prop
  | 0, c => (match c with
    | .num => True
    | .txt => True
    | .ltr x => Upw x
    | .cut x hs => Upw x ∧ HsOk hs
    | _ => False)
  | d + 1, c => (match c with
    | .num => True
    | .txt => True
    | .ltr x => Upw x
    | .cut x hs => Upw x ∧ HsOk hs
    | .box _ ks => ks ≠ [] ∧ ∀ k ∈ ks, TC d k
    | .shp fs => fs ≠ [] ∧ ∀ f ∈ fs, Word f.1 ∧ f.2 ≠ [] ∧ ∀ k ∈ f.2, TC d k
    | _ => False)
def TellC (d : Nat) : Prop := ∀ {c c' : Ch} {r r' : Txt}, TC d c → TC d c' → Stop r → Stop r' → c.sh ++ r = c'.sh ++ r' → c = c' ∧ r = r'
def TellK (d : Nat) : Prop := ∀ {ks ls : List Ch} {r r' : Txt}, ks ≠ [] → ls ≠ [] → (∀ k ∈ ks, TC d k) → (∀ k ∈ ls, TC d k) → Stop2 r → Stop2 r' → Ch.shk ks ++ r = Ch.shk ls ++ r' → ks = ls ∧ r = r'
theorem Stop2.stop {r : Txt} (h : Stop2 r) : Stop r := fun x s e => by
  rcases h x s e with h | h | h
  · exact .inl h
  · exact .inr (.inl h)
  · exact .inr (.inr (.inr h))
theorem tellK_of {d : Nat} (H : TellC d) : TellK d := by
  intro ks
  induction ks with
  | nil => intro ls r r' h; exact absurd rfl h
  | cons a as ih =>
    intro ls r r' _ hl hk hk' s s' e
    cases ls with
    | nil => exact absurd rfl hl
    | cons b bs =>
      have st : ∀ z : Txt, Stop (32 :: z) := fun z x s e => by cases e; simp
      cases as with
      | nil =>
        cases bs with
        | nil =>
          simp only [Ch.shk, Ch.shs, joinT] at e
          obtain ⟨rfl, e2⟩ := H (hk a (by simp)) (hk' b (by simp)) s.stop s'.stop e
          exact ⟨rfl, e2⟩
        | cons b2 bs =>
          simp only [Ch.shk, Ch.shs, joinT, List.append_assoc] at e
          obtain ⟨_, e⟩ := H (hk a (by simp)) (hk' b (by simp)) s.stop (st _) e
          have := s 32 _ e
          simp at this
      | cons a2 as =>
        cases bs with
        | nil =>
          simp only [Ch.shk, Ch.shs, joinT, List.append_assoc] at e
          obtain ⟨_, e⟩ := H (hk a (by simp)) (hk' b (by simp)) (st _) s'.stop e
          have := s' 32 _ e.symm
          simp at this
        | cons b2 bs =>
          simp only [Ch.shk, Ch.shs, joinT, List.append_assoc] at e
          obtain ⟨rfl, e⟩ := H (hk a (by simp)) (hk' b (by simp)) (st _) (st _) e
          have e : Ch.shk (a2 :: as) ++ r = Ch.shk (b2 :: bs) ++ r' := by
            simp only [Ch.shk, Ch.shs]
            simpa using e
          obtain ⟨e1, e2⟩ := ih (by simp) (by simp) (fun k hk2 => hk k (by simp at hk2 ⊢; exact .inr hk2)) (fun k hk2 => hk' k (by simp at hk2 ⊢; exact .inr hk2)) s s' e
          exact ⟨by rw [e1], e2⟩
def FsOk (d : Nat) (fs : List (Txt × List Ch)) : Prop := fs ≠ [] ∧ ∀ f ∈ fs, Word f.1 ∧ f.2 ≠ [] ∧ ∀ k ∈ f.2, TC d k
theorem tellF_of {d : Nat} (H : TellK d) : ∀ {fs gs : List (Txt × List Ch)} {r r' : Txt}, FsOk d fs → FsOk d gs → joinT [44, 32] (Ch.shf fs) ++ 125 :: r = joinT [44, 32] (Ch.shf gs) ++ 125 :: r' → fs = gs ∧ r = r' := by
  have one : ∀ {f g : Txt × List Ch} {s t : Txt}, (Word f.1 ∧ f.2 ≠ [] ∧ ∀ k ∈ f.2, TC d k) → (Word g.1 ∧ g.2 ≠ [] ∧ ∀ k ∈ g.2, TC d k) → Stop2 s → Stop2 t → Ch.shd f ++ s = Ch.shd g ++ t → f = g ∧ s = t := by
    rintro ⟨f, ks⟩ ⟨g, ls⟩ s t h1 h2 hs ht e
    simp only [Ch.shd, List.append_assoc] at e
    obtain ⟨rfl, e⟩ := word_split (P := fun x => 97 ≤ x ∧ x ≤ 122) h1.1.low h2.1.low (fun x r e => by cases e; simp) (fun x r e => by cases e; simp) e
    have e : Ch.shk ks ++ s = Ch.shk ls ++ t := by simpa using e
    obtain ⟨e3, e4⟩ := H h1.2.1 h2.2.1 h1.2.2 h2.2.2 hs ht e
    have e3 : ks = ls := e3
    subst e3
    exact ⟨rfl, e4⟩
  have s125 : ∀ z : Txt, Stop2 (125 :: z) := fun z x s e => by cases e; simp
  have s44 : ∀ z : Txt, Stop2 (44 :: z) := fun z x s e => by cases e; simp
  intro fs
  induction fs with
  | nil => intro gs r r' h; exact absurd rfl h.1
  | cons a as ih =>
    intro gs r r' h1 h2 e
    cases gs with
    | nil => exact absurd rfl h2.1
    | cons b bs =>
      cases as with
      | nil =>
        cases bs with
        | nil =>
          simp only [Ch.shf, joinT] at e
          obtain ⟨rfl, e⟩ := one (h1.2 a (by simp)) (h2.2 b (by simp)) (s125 _) (s125 _) e
          exact ⟨rfl, by simpa using e⟩
        | cons b2 bs =>
          simp only [Ch.shf, joinT, List.append_assoc] at e
          obtain ⟨_, e⟩ := one (h1.2 a (by simp)) (h2.2 b (by simp)) (s125 _) (s44 _) e
          simp at e
      | cons a2 as =>
        cases bs with
        | nil =>
          simp only [Ch.shf, joinT, List.append_assoc] at e
          obtain ⟨_, e⟩ := one (h1.2 a (by simp)) (h2.2 b (by simp)) (s44 _) (s125 _) e
          simp at e
        | cons b2 bs =>
          simp only [Ch.shf, joinT, List.append_assoc] at e
          obtain ⟨rfl, e⟩ := one (h1.2 a (by simp)) (h2.2 b (by simp)) (s44 _) (s44 _) e
          have e : joinT [44, 32] (Ch.shf (a2 :: as)) ++ 125 :: r = joinT [44, 32] (Ch.shf (b2 :: bs)) ++ 125 :: r' := by
            simp only [Ch.shf]
            simpa using e
          obtain ⟨e1, e2⟩ := ih ⟨by simp, fun f hf => h1.2 f (by simp at hf ⊢; exact .inr hf)⟩ ⟨by simp, fun f hf => h2.2 f (by simp at hf ⊢; exact .inr hf)⟩ e
          exact ⟨by rw [e1], e2⟩
/-- the first sign -/
theorem Upw.first {x : Txt} (h : Upw x) : ∃ a s, x = a :: s ∧ 65 ≤ a ∧ a ≤ 90 := by
  cases x with
  | nil => exact absurd rfl h.1
  | cons a s => exact ⟨a, s, rfl, h.2 a (by simp)⟩
theorem tell_letters {x y : Txt} {s t : Txt} (h1 : Upw x) (h2 : Upw y) (hs : Stop s ∨ ∃ z, s = 40 :: z) (ht : Stop t ∨ ∃ z, t = 40 :: z) (e : x ++ s = y ++ t) : x = y ∧ s = t := by
  have no : ∀ {s : Txt}, (Stop s ∨ ∃ z, s = 40 :: z) → ∀ a r, s = a :: r → ¬ (65 ≤ a ∧ a ≤ 90) := fun {s} h a r e => by
    rcases h with h | ⟨z, h⟩
    · rcases h a r e with rfl | rfl | rfl | rfl <;> decide
    · rw [e] at h; cases h; decide
  exact word_split (P := fun x => 65 ≤ x ∧ x ≤ 90) h1.2 h2.2 (no hs) (no ht) e
def cls : Ch → Nat
  | .num => 0
  | .txt => 1
  | .ltr _ => 2
  | .cut _ _ => 2
  | .box true _ => 3
  | .box false _ => 4
  | .shp _ => 5
  | _ => 6
def code (a : Nat) : Nat := if a = 110 then 0 else if a = 116 then 1 else if a = 114 then 3 else if a = 98 then 4 else if a = 123 then 5 else if 65 ≤ a ∧ a ≤ 90 then 2 else 9
theorem first_of {d : Nat} {c : Ch} (h : TC d c) : ∃ a s, c.sh = a :: s ∧ code a = cls c := by
  have up : ∀ {x : Txt}, Upw x → ∃ a s, x = a :: s ∧ code a = 2 := fun {x} h => by
    obtain ⟨a, s, rfl, l, u⟩ := h.first
    refine ⟨a, s, rfl, ?_⟩
    unfold code
    rw [if_neg (by omega), if_neg (by omega), if_neg (by omega), if_neg (by omega), if_neg (by omega), if_pos ⟨l, u⟩]
  cases c with
  | num => exact ⟨_, _, rfl, rfl⟩
  | txt => exact ⟨_, _, rfl, rfl⟩
  | ltr x =>
    obtain ⟨a, s, e, k⟩ := up (x := x) (by cases d <;> exact h)
    exact ⟨a, s, e, k⟩
  | cut x hs =>
    obtain ⟨a, s, e, k⟩ := up (x := x) (by cases d <;> exact h.1)
    exact ⟨a, s ++ [40] ++ joinT [44, 32] hs ++ [41], by simp [Ch.sh, e], k⟩
  | box b ks => cases b <;> exact ⟨_, _, rfl, rfl⟩
  | shp fs => exact ⟨_, _, rfl, rfl⟩
  | som b => cases d <;> exact h.elim
  | wit f => cases d <;> exact h.elim
theorem tell_step {d : Nat} (HK : ∀ d', d = d' + 1 → TellK d') : TellC d := by
  intro c c' r r' h h' s s' e
  have hc : cls c = cls c' := by
    obtain ⟨a, x, e1, k1⟩ := first_of h
    obtain ⟨b, y, e2, k2⟩ := first_of h'
    rw [e1, e2] at e
    simp only [List.cons_append, List.cons.injEq] at e
    rw [← k1, ← k2, e.1]
  have lu : ∀ {x : Txt}, TC d (.ltr x) → Upw x := fun {x} h => by cases d <;> exact h
  have cu : ∀ {x : Txt} {hs : List Txt}, TC d (.cut x hs) → Upw x ∧ HsOk hs := fun {x hs} h => by cases d <;> exact h
  have p40 : ∀ z : Txt, Stop (40 :: z) → False := fun z h => by have := h 40 z rfl; simp at this
  have bx : ∀ {b : Bool} {ks ls : List Ch}, TC d (.box b ks) → TC d (.box b ls) → joinT [32, 124, 32] (Ch.shs ks) ++ 41 :: r = joinT [32, 124, 32] (Ch.shs ls) ++ 41 :: r' → ks = ls ∧ r = r' := fun {b ks ls} h1 h2 e => by
    cases d with
    | zero => exact h1.elim
    | succ d =>
      obtain ⟨e1, e2⟩ := HK d rfl (r := 41 :: r) (r' := 41 :: r') h1.1 h2.1 h1.2 h2.2 (fun x s e => by cases e; simp) (fun x s e => by cases e; simp) e
      exact ⟨e1, by simpa using e2⟩
  cases c with
  | num => cases c' with
    | num => exact ⟨rfl, List.append_cancel_left e⟩
    | box b _ => cases b <;> simp [cls] at hc
    | _ => simp [cls] at hc
  | txt => cases c' with
    | txt => exact ⟨rfl, List.append_cancel_left e⟩
    | box b _ => cases b <;> simp [cls] at hc
    | _ => simp [cls] at hc
  | ltr x => cases c' with
    | ltr y =>
      obtain ⟨rfl, e2⟩ := tell_letters (lu h) (lu h') (.inl s) (.inl s') e
      exact ⟨rfl, e2⟩
    | cut y hs =>
      simp only [Ch.sh, List.append_assoc] at e
      obtain ⟨_, e2⟩ := tell_letters (lu h) (cu h').1 (.inl s) (.inr ⟨_, rfl⟩) e
      rw [e2] at s
      exact (p40 _ s).elim
    | box b _ => cases b <;> simp [cls] at hc
    | _ => simp [cls] at hc
  | cut x hs => cases c' with
    | ltr y =>
      simp only [Ch.sh, List.append_assoc] at e
      obtain ⟨_, e2⟩ := tell_letters (cu h).1 (lu h') (.inr ⟨_, rfl⟩) (.inl s') e
      rw [← e2] at s'
      exact (p40 _ s').elim
    | cut y gs =>
      simp only [Ch.sh, List.append_assoc] at e
      obtain ⟨e1, e2⟩ := tell_letters (cu h).1 (cu h').1 (.inr ⟨_, rfl⟩) (.inr ⟨_, rfl⟩) e
      subst e1
      have e2 : joinT [44, 32] hs ++ 41 :: r = joinT [44, 32] gs ++ 41 :: r' := by simpa using e2
      obtain ⟨rfl, e3⟩ := heads_split (cu h).2 (cu h').2 e2
      exact ⟨rfl, e3⟩
    | box b _ => cases b <;> simp [cls] at hc
    | _ => simp [cls] at hc
  | box b ks => cases c' with
    | box b' ls =>
      have eb : b = b' := by cases b <;> cases b' <;> first | rfl | simp [cls] at hc
      subst eb
      have e : joinT [32, 124, 32] (Ch.shs ks) ++ 41 :: r = joinT [32, 124, 32] (Ch.shs ls) ++ 41 :: r' := by
        simp only [Ch.sh, List.append_assoc] at e
        have := List.append_cancel_left e
        simpa using this
      obtain ⟨rfl, e3⟩ := bx h h' e
      exact ⟨rfl, e3⟩
    | _ => cases b <;> simp [cls] at hc
  | shp fs => cases c' with
    | shp gs =>
      cases d with
      | zero => exact h.elim
      | succ d =>
        have e : joinT [44, 32] (Ch.shf fs) ++ 125 :: r = joinT [44, 32] (Ch.shf gs) ++ 125 :: r' := by
          simpa [Ch.sh] using e
        obtain ⟨rfl, e3⟩ := tellF_of (HK d rfl) h h' e
        exact ⟨rfl, e3⟩
    | box b _ => cases b <;> simp [cls] at hc
    | _ => simp [cls] at hc
  | som b => cases d <;> exact h.elim
  | wit f => cases d <;> exact h.elim
theorem tell : ∀ d : Nat, TellC d
  | 0 => tell_step fun _ e => by cases e
  | d + 1 => tell_step fun d' e => by cases e; exact tellK_of (tell d)
theorem sh_inj {d : Nat} {c c' : Ch} (h : TC d c) (h' : TC d c') (e : c.sh = c'.sh) : c = c' :=
  (tell d (r := []) (r' := []) h h' (fun _ _ z => by cases z) (fun _ _ z => by cases z) (by rw [e])).1
end Mi
namespace Mi
/-! kinds joined -/
theorem for_invC {D : De} {ck : Store → Bool} {tg : Tg} {K : Env → Store → Fl} (J : Nat → Env → Store → Prop) : ∀ {xs : List Val} {η : Env} {st : Store}, J 0 η st → (∀ k η st, J k η st → ck st = true) →
    (∀ (k : Nat) (x : Val), xs[k]? = some x → ∀ η st, J k η st → ∃ η1, asgTg tg x η = some η1 ∧ FlP (K η1 st) { nx := J (k + 1), rt := D.rt, bk := D.nx, ct := J (k + 1) }) →
    (∀ η st, J xs.length η st → D.nx η st) → FlP (forLoop ck tg K xs η st) D := by
  intro xs
  induction xs generalizing J with
  | nil =>
    intro η st j c _ f
    have e : forLoop ck tg K [] η st = .nx η st := by simp only [forLoop, c _ _ _ j, if_true]
    rw [e]
    exact .mk (f _ _ j)
  | cons x xs ih =>
    intro η st j c s f
    obtain ⟨η1, e, h⟩ := s 0 x rfl η st j
    have next : ∀ η st, J 1 η st → FlP (forLoop ck tg K xs η st) D := fun η st j => ih (fun k => J (k + 1)) j (fun k => c (k + 1)) (fun k y hy => s (k + 1) y hy) f
    simp only [forLoop, c _ _ _ j, if_true, e]
    cases q : K η1 st with
    | nx η st => rw [q] at h; exact next _ _ h.out
    | rt v st => rw [q] at h; exact .mk h.out
    | bk η st => rw [q] at h; exact .mk h.out
    | ct η st => rw [q] at h; exact next _ _ h.out
    | xc x η st => rw [q] at h; exact h.out.elim
    | no => rw [q] at h; exact h.out.elim
def LtSh (a b : Ch) : Prop := ltT a.sh b.sh = true
/-- a dict of choices by their texts -/
structure EsOk (d : Nat) (es : List Ch) : Prop where
  nd : (es.map Ch.sh).Nodup
  tc : ∀ c ∈ es, TC d c
theorem look_es {d : Nat} {es : List Ch} (h : EsOk d es) {c : Ch} (hc : c ∈ es) : look c.sh (es.map Ch.sh) (es.map Ch.v) = some c.v := by
  obtain ⟨j, hj⟩ := List.getElem?_of_mem hc
  exact look_at h.nd (by rw [List.getElem?_map, hj]; rfl) (by rw [List.getElem?_map, hj]; rfl)
theorem setA_es {d : Nat} {c : Ch} (hc : TC d c) : ∀ {es : List Ch}, (∀ x ∈ es, TC d x) → setA c.sh c.v (es.map Ch.sh) (es.map Ch.v) = es.map Ch.v
  | [], _ => rfl
  | x :: es, h => by
    simp only [List.map_cons, setA, setA_es hc (es := es) fun y hy => h y (by simp [hy])]
    split
    · rename_i e
      rw [sh_inj (h x (by simp)) hc e]
    · rfl
/-- one more -/
def esPut (c : Ch) (es : List Ch) : List Ch := if c.sh ∈ es.map Ch.sh then es else es ++ [c]
theorem putD_es {d : Nat} {c : Ch} {es : List Ch} (hc : TC d c) (h : EsOk d es) : putD c.sh c.v (es.map Ch.sh) (es.map Ch.v) = ((esPut c es).map Ch.sh, (esPut c es).map Ch.v) := by
  unfold putD esPut
  split
  · rw [setA_es hc h.tc]
  · simp
theorem esPut_ok {d : Nat} {c : Ch} {es : List Ch} (hc : TC d c) (h : EsOk d es) : EsOk d (esPut c es) ∧ (∀ x, x ∈ esPut c es ↔ x = c ∨ x ∈ es) ∧ (esPut c es).length ≤ es.length + 1 := by
  unfold esPut
  split
  · rename_i m
    refine ⟨h, fun x => ⟨.inr, fun z => ?_⟩, by omega⟩
    rcases z with rfl | z
    · obtain ⟨y, hy, e⟩ := List.mem_map.mp m
      rw [sh_inj (h.tc y hy) hc e] at hy
      exact hy
    · exact z
  · rename_i m
    refine ⟨⟨?_, fun x hx => ?_⟩, fun x => by simp [or_comm], by simp⟩
    · rw [List.map_append, List.nodup_append]
      refine ⟨h.nd, by simp, fun a ha b hb e => ?_⟩
      simp at hb
      subst hb e
      exact m ha
    · rcases List.mem_append.mp hx with hx | hx
      · exact h.tc x hx
      · simp at hx; subst hx; exact hc
/-- in the order of the texts -/
def pick (es : List Ch) (t : Txt) : Ch := (es.find? fun c => c.sh == t).getD .num
theorem pick_of {es : List Ch} {t : Txt} (h : t ∈ es.map Ch.sh) : pick es t ∈ es ∧ (pick es t).sh = t := by
  obtain ⟨c, hc, rfl⟩ := List.mem_map.mp h
  unfold pick
  cases q : es.find? fun x => x.sh == c.sh with
  | none => exact absurd (List.find?_eq_none.mp q c hc) (by simp)
  | some y => exact ⟨List.mem_of_find?_eq_some q, by simpa using List.find?_some q⟩
def esSort (es : List Ch) : List Ch := (sortT (es.map Ch.sh)).map (pick es)
theorem esSort_mem {d : Nat} {es : List Ch} (h : EsOk d es) (c : Ch) : c ∈ esSort es ↔ c ∈ es := by
  have m : ∀ t, t ∈ sortT (es.map Ch.sh) ↔ t ∈ es.map Ch.sh := fun t => (sortT_perm _).mem_iff
  constructor
  · intro hc
    obtain ⟨t, ht, rfl⟩ := List.mem_map.mp hc
    exact (pick_of ((m t).mp ht)).1
  · intro hc
    have ht : c.sh ∈ es.map Ch.sh := List.mem_map.mpr ⟨c, hc, rfl⟩
    obtain ⟨p1, p2⟩ := pick_of ht
    have : pick es c.sh = c := sh_inj (h.tc _ p1) (h.tc c hc) p2
    exact List.mem_map.mpr ⟨c.sh, (m _).mpr ht, this⟩
theorem esSort_sorted {d : Nat} {es : List Ch} (h : EsOk d es) : (esSort es).Pairwise LtSh := by
  unfold esSort
  rw [List.pairwise_map]
  have nd : (sortT (es.map Ch.sh)).Nodup := (sortT_perm _).nodup_iff.mpr h.nd
  have both := (sortT_sorted (es.map Ch.sh)).and nd
  refine List.Pairwise.imp_of_mem (fun {a b} ha hb hab => ?_) both
  have e1 := (pick_of ((sortT_perm _).mem_iff.mp ha)).2
  have e2 := (pick_of ((sortT_perm _).mem_iff.mp hb)).2
  show ltT (pick es a).sh (pick es b).sh = true
  rw [e1, e2]
  cases q : ltT a b with
  | true => rfl
  | false => exact absurd (ltT_tri q hab.1) hab.2
section
variable {p : Prg} (hk : p.fns[0]? = some d_shown_kind) (hc : p.fns[1]? = some d_shown_choice) (hj : p.fns[2]? = some d_joined)
/-- kinds to be joined -/
def KsIn (d n : Nat) (ls : List (List Ch)) : Prop := ls.flatten.length ≤ n ∧ ∀ c ∈ ls.flatten, TC d c ∧ c.sh.length ≤ 1000
theorem shown_at (hk : p.fns[0]? = some d_shown_kind) (hc : p.fns[1]? = some d_shown_choice) (d m : Nat) (st : Store) (c : Ch) (h : c.dp ≤ d) (hl : c.sh.length ≤ 1000000) : Ret (callN p (m + 2 * d + 1) 1 [c.v] st) fun v s => v = .str c.sh ∧ s = st := by
  refine shownC_step hc (m + 2 * d) st c (by omega) fun ls h2 h3 => ?_
  cases d with
  | zero => omega
  | succ d =>
    rw [show m + 2 * (d + 1) = m + 2 * d + 2 by omega]
    exact shown_ok hk hc d m st ls (by omega) h3
end
end Mi
namespace Mi
local macro_rules | `(tactic| array_mem_dec) => `(tactic| repeat (first | (with_reducible refine t_seq ?_) | (with_reducible refine t_skip ?_) | (with_reducible refine t_asg ?_) | (with_reducible refine t_ret ?_) | (with_reducible refine t_expr ?_) | (with_reducible refine t_put ?_) | (with_reducible refine t_ite ?_) | (with_reducible refine t_for ?_) | (with_reducible refine t_asgT ?_) | ((with_reducible apply v_var); rfl) | ((with_reducible apply b_var); rfl) | ((with_reducible apply i_var); rfl) | (with_reducible refine v_lit ?_) | (with_reducible refine v_ix ?_) | (with_reducible refine v_bin ?_) | (with_reducible refine v_cmp ?_) | (with_reducible refine v_call ?_) | (with_reducible refine v_tup ?_) | (with_reducible refine v_lst ?_) | (with_reducible refine v_new ?_) | (with_reducible refine v_fn ?_) | (with_reducible refine v_isi ?_) | (with_reducible refine v_mt ?_) | (with_reducible refine v_and ?_) | (with_reducible refine v_or ?_) | (with_reducible refine v_not ?_) | (with_reducible refine v_ite ?_) | (with_reducible refine v_neg ?_) | (with_reducible refine v_chain ?_) | (with_reducible refine v_isN ?_) | (with_reducible refine v_isB ?_) | (with_reducible refine v_lc ?_) | (with_reducible refine a_cons ?_) | (with_reducible refine a_nil ?_) | (with_reducible refine b_cmp ?_) | (with_reducible refine b_and ?_) | (with_reducible refine b_or ?_) | (with_reducible refine b_not ?_) | (with_reducible refine b_call ?_) | (with_reducible refine b_isi ?_) | (with_reducible refine b_lit ?_) | (with_reducible refine b_isN ?_) | (with_reducible refine b_isB ?_) | (with_reducible refine b_chain ?_) | (with_reducible refine b_mt ?_) | (with_reducible refine b_fn ?_) | (with_reducible refine i_rng ?_) | (with_reducible refine i_ix ?_) | (with_reducible refine i_fn ?_) | (with_reducible refine i_call ?_) | (with_reducible refine i_bin ?_) | (with_reducible refine i_lst ?_) | (with_reducible refine i_sortK ?_) | (with_reducible refine i_tup ?_) | (with_reducible refine i_lc ?_) | (with_reducible refine v_dcpy ?_) | (with_reducible refine v_lnew ?_) | refine ⟨Nat.le_of_ble_eq_true rfl, ?_⟩ | refine ⟨_, rfl, ?_⟩))
theorem TC.dp : ∀ {d : Nat} {c : Ch}, TC d c → c.dp ≤ d := by
  intro d
  induction d with
  | zero => intro c h; cases c <;> first | exact h.elim | exact Nat.le_refl 0
  | succ d ih =>
    intro c h
    cases c with
    | box b ks => simp only [Ch.dp]; exact Nat.succ_le_succ (Ch.dps_le.mpr fun k hk => ih (h.2 k hk))
    | shp fs => simp only [Ch.dp]; exact Nat.succ_le_succ (Ch.dpf_le.mpr fun f hf => Ch.dps_le.mpr fun k hk => ih ((h.2 f hf).2.2 k hk))
    | num => exact Nat.zero_le _
    | txt => exact Nat.zero_le _
    | ltr x => exact Nat.zero_le _
    | cut x hs => exact Nat.zero_le _
    | _ => exact h.elim
theorem TC.up : ∀ {d : Nat} {c : Ch}, TC d c → TC (d + 1) c := by
  intro d
  induction d with
  | zero => intro c h; cases c <;> first | exact h.elim | exact h
  | succ d ih =>
    intro c h
    cases c with
    | box b ks => exact ⟨h.1, fun k hk => ih (h.2 k hk)⟩
    | shp fs => exact ⟨h.1, fun f hf => ⟨(h.2 f hf).1, (h.2 f hf).2.1, fun k hk => ih ((h.2 f hf).2.2 k hk)⟩⟩
    | num => trivial
    | txt => trivial
    | ltr x => exact h
    | cut x hs => exact h
    | _ => exact h.elim
abbrev kdT (ks : List Ch) : Val := .tup (Ch.vs ks)
abbrev esO (es : List Ch) : Ob := .dct (es.map Ch.sh) (es.map Ch.v)
theorem last_at {st : Store} {o : Ob} : (st ++ [o])[st.length]? = some o := by simp
theorem set_last {st : Store} {o o' : Ob} : (st ++ [o]).set st.length o' = st ++ [o'] := by simp
theorem take_flat {α : Type} {ls : List (List α)} {k : Nat} {x : List α} (h : ls[k]? = some x) : (ls.take (k + 1)).flatten = (ls.take k).flatten ++ x := by
  rw [List.take_succ, h]; simp
section
variable {p : Prg} (hk : p.fns[0]? = some d_shown_kind) (hc : p.fns[1]? = some d_shown_choice) (hj : p.fns[2]? = some d_joined)
include hk hc hj in
theorem joined_okL (d m : Nat) (st : Store) (kv : Val) (o : Option Nat) (ls : List (List Ch)) (hit : ∀ o', itemsOf (st ++ [o']) kv = some (ls.map kdT, o)) (hck : ∀ o', ckOf o (ls.map kdT) (st ++ [o']) = true)
    (hn : ls.flatten.length ≤ 60) (hin : ∀ c ∈ ls.flatten, TC d c ∧ c.sh.length ≤ 1000000) :
    Ret (callN p (m + 2 * d + 1 + 1) 2 [kv] st) fun v s => (∃ R, v = kdT R ∧ R.Pairwise LtSh ∧ ∀ c, c ∈ R ↔ c ∈ ls.flatten) ∧ ∃ o', s = st ++ [o'] := by
  refine call_of hj rfl ?_
  simp only [d_joined, List.map_cons, List.map_nil, List.length_cons, List.length_nil, List.cons_append, List.nil_append, Nat.reduceAdd, Nat.reduceSub, Nat.zero_add, Nat.add_zero, Nat.sub_self, Nat.sub_zero, List.replicate]
  array_mem_dec
  refine v_dnew2 (ks := []) (xs := []) (D := ([], [])) ?_
  array_mem_dec
  refine ⟨rfl, Nat.le_of_ble_eq_true rfl, rfl, ?_⟩
  array_mem_dec
  refine ⟨_, hit _, ?_⟩
  refine for_invC (fun k η s => (∃ y z, η = [some kv, some (.loc st.length), y, z, none]) ∧ ∃ es, s = st ++ [esO es] ∧ EsOk d es ∧ (∀ c, c ∈ es ↔ c ∈ (ls.take k).flatten) ∧ es.length ≤ (ls.take k).flatten.length) ?_ ?_ ?_ ?_
  · exact ⟨⟨none, none, rfl⟩, [], rfl, ⟨by simp, by simp⟩, by simp, by simp⟩
  · rintro k η s ⟨_, es, rfl, _⟩
    exact hck _
  · rintro k x hx η s ⟨⟨y, z, rfl⟩, es, rfl, hes, hm, hle⟩
    rw [List.getElem?_map] at hx
    cases hq : ls[k]? with
    | none => rw [hq] at hx; cases hx
    | some ks =>
      rw [hq] at hx
      cases hx
      have hsub : ∀ c ∈ ks, c ∈ ls.flatten := fun c hc' => List.mem_flatten.mpr ⟨ks, List.mem_of_getElem? hq, hc'⟩
      have hl1 : (ls.take k).flatten.length + ks.length ≤ 60 := by
        have e := take_flat hq
        have : (ls.take (k + 1)).flatten.length ≤ ls.flatten.length := by
          have h2 : ls.flatten = (ls.take (k + 1)).flatten ++ (ls.drop (k + 1)).flatten := by rw [← List.flatten_append, List.take_append_drop]
          rw [h2, List.length_append]; omega
        rw [e, List.length_append] at this
        omega
      refine ⟨_, rfl, ?_⟩
      array_mem_dec
      rw [ckN]
      refine for_inv (fun j η s => (∃ z, η = [some kv, some (.loc st.length), some (kdT ks), z, none]) ∧ ∃ es, s = st ++ [esO es] ∧ EsOk d es ∧ (∀ c, c ∈ es ↔ c ∈ (ls.take k).flatten ∨ c ∈ ks.take j) ∧ es.length ≤ (ls.take k).flatten.length + j) ?_ ?_ ?_
      · exact ⟨⟨_, rfl⟩, es, rfl, hes, fun c => by simp [hm], by omega⟩
      · rintro j x hx η s ⟨⟨z, rfl⟩, es, rfl, hes, hm, hle⟩
        rw [Ch.vs_map, List.getElem?_map] at hx
        cases hq2 : ks[j]? with
        | none => rw [hq2] at hx; cases hx
        | some c =>
          rw [hq2] at hx
          cases hx
          have hj' := (List.getElem?_eq_some_iff.mp hq2).1
          obtain ⟨tc, tl⟩ := hin c (hsub c (List.mem_of_getElem? hq2))
          refine ⟨_, rfl, ?_⟩
          array_mem_dec
          refine (shown_at hk hc d m _ c tc.dp tl).imp fun v s1 ⟨e1, e2⟩ => ?_
          subst e1 e2
          have lt : (es.map Ch.v).length < PySem.sizeLine := by
            rw [List.length_map, show PySem.sizeLine = 16777216 from rfl]; omega
          refine ⟨st ++ [esO (esPut c es)], ?_, ?_⟩
          · simp only [putV, last_at, keyOf, Option.bind, if_pos lt, putD_es tc hes, set_last]
          array_mem_dec
          obtain ⟨k1, k2, k3⟩ := esPut_ok tc hes
          refine ⟨⟨_, rfl⟩, _, rfl, k1, fun x => ?_, by omega⟩
          rw [k2, hm, List.take_succ, hq2]
          simp only [Option.toList_some, List.mem_append, List.mem_singleton]
          constructor
          · rintro (h | h | h)
            · exact .inr (.inr h)
            · exact .inl h
            · exact .inr (.inl h)
          · rintro (h | h | h)
            · exact .inr (.inl h)
            · exact .inr (.inr h)
            · exact .inl h
      · rintro η s ⟨⟨z, rfl⟩, es, rfl, hes, hm, hle⟩
        array_mem_dec
        have lv : (Ch.vs ks).length = ks.length := by rw [Ch.vs_map, List.length_map]
        have hle : es.length ≤ (ls.take k).flatten.length + (Ch.vs ks).length := hle
        refine ⟨⟨_, _, rfl⟩, es, rfl, hes, fun c => ?_, ?_⟩
        · rw [hm, take_flat hq, List.mem_append, lv, List.take_length]
        · rw [take_flat hq, List.length_append]; omega
  · rintro η s ⟨⟨y, z, rfl⟩, es, rfl, hes, hm, hle⟩
    rw [List.length_map, List.take_length] at hm hle
    have len : (es.map Ch.sh).length < 64 := by rw [List.length_map]; omega
    array_mem_dec
    refine ⟨.lst ((es.map Ch.sh).map .str), ?_, ?_⟩
    · simp only [fnV, listV, asS, asL, asD, last_at, Option.map_some]
    array_mem_dec
    refine ⟨_, sort_ok len, ?_⟩
    array_mem_dec
    rw [ckN]
    refine lc_map (fun t : Txt => .str t) (fun t => (pick es t).v) _ _ (fun t ht => ⟨_, rfl, fun _ => rfl, ?_⟩) ?_ ?_
    · obtain ⟨p1, p2⟩ := pick_of ((sortT_perm _).mem_iff.mp ht)
      array_mem_dec
      refine ⟨_, ?_, rfl, rfl⟩
      simp only [ixV, last_at, keyOf, Option.bind]
      have := look_es hes p1
      rw [p2] at this
      exact this
    · have := sortT_len (es.map Ch.sh)
      simp only [List.length_nil, show PySem.sizeLine = 16777216 from rfl]; omega
    array_mem_dec
    refine ⟨⟨esSort es, ?_, esSort_sorted hes, fun c => by rw [esSort_mem hes, hm]⟩, _, rfl⟩
    rw [kdT, Ch.vs_map, esSort, List.map_map]; rfl
include hk hc hj in
theorem joined_ok (d m : Nat) (st : Store) (kv : Val) (o : Option Nat) (ls : List (List Ch)) (hit : ∀ o', itemsOf (st ++ [o']) kv = some (ls.map kdT, o)) (hck : ∀ o', ckOf o (ls.map kdT) (st ++ [o']) = true)
    (hn : ls.flatten.length ≤ 60) (hin : ∀ c ∈ ls.flatten, TC d c ∧ c.sh.length ≤ 1000) :
    Ret (callN p (m + 2 * d + 1 + 1) 2 [kv] st) fun v s => (∃ R, v = kdT R ∧ R.Pairwise LtSh ∧ ∀ c, c ∈ R ↔ c ∈ ls.flatten) ∧ ∃ o', s = st ++ [o'] :=
  joined_okL hk hc hj d m st kv o ls hit hck hn fun c hc' => ⟨(hin c hc').1, Nat.le_trans (hin c hc').2 (by decide)⟩
end
end Mi
namespace Mi
/-- the store has grown -/
def Gr (st s : Store) : Prop := ∃ os, s = st ++ os
theorem Gr.refl {st : Store} : Gr st st := ⟨[], by simp⟩
theorem Gr.one {st : Store} {o : Ob} : Gr st (st ++ [o]) := ⟨[o], rfl⟩
theorem Gr.trans {a b c : Store} (h : Gr a b) (k : Gr b c) : Gr a c := by
  obtain ⟨x, rfl⟩ := h
  obtain ⟨y, rfl⟩ := k
  exact ⟨x ++ y, by rw [List.append_assoc]⟩
theorem Gr.at {a b : Store} (h : Gr a b) {n : Nat} (hn : n < a.length) : b[n]? = a[n]? := by
  obtain ⟨x, rfl⟩ := h
  rw [List.getElem?_append_left hn]
theorem Gr.len {a b : Store} (h : Gr a b) : a.length ≤ b.length := by
  obtain ⟨x, rfl⟩ := h
  simp
theorem eq_tups {st : Store} {as bs : List Txt} : eqv st 60 (.tup (as.map .str)) (.tup (bs.map .str)) = some (decide (as = bs)) := by
  have key : ∀ {as bs : List Txt}, (eqz (eqv st 59) (as.map Val.str) (bs.map Val.str)).map (· && (as.map Val.str).length == (bs.map Val.str).length) = some (decide (as = bs)) := by
    intro as
    induction as with
    | nil => intro bs; cases bs <;> simp [eqz]
    | cons a as ih =>
      intro bs
      cases bs with
      | nil => simp [eqz]
      | cons b bs =>
        have e : eqv st 59 (.str a) (.str b) = some (a == b) := rfl
        have h := ih (bs := bs)
        cases q : eqz (eqv st 59) (as.map Val.str) (bs.map Val.str) with
        | none => rw [q] at h; cases h
        | some c =>
          rw [q] at h
          simp only [Option.map_some, Option.some.injEq] at h
          simp only [List.map_cons, eqz, e, q, Option.bind_some, Option.map_some, Option.some.injEq]
          rw [Bool.eq_iff_iff] at h ⊢
          simp only [Bool.and_eq_true, beq_iff_eq, decide_eq_true_eq, List.length_cons, List.cons.injEq] at h ⊢
          constructor
          · rintro ⟨⟨h1, h2⟩, h3⟩
            exact ⟨h1, h.mp ⟨h2, by omega⟩⟩
          · rintro ⟨h1, h2⟩
            obtain ⟨h3, h4⟩ := h.mpr h2
            exact ⟨⟨h1, h3⟩, by omega⟩
  exact key
theorem sortT_U {ts us : List Txt} (nd : ts.Nodup) (h : ∀ t, t ∈ ts ↔ t ∈ us) : sortT ts = sortU us := by
  have s2 := sortU_sorted us
  have le : (sortU us).Pairwise LeT := s2.imp fun {a b} hab => by
    show ltT b a = false
    cases q : ltT b a with
    | false => rfl
    | true =>
      have := ltT_trans q hab
      rw [ltT_irrefl] at this
      cases this
  have nd2 : (sortU us).Nodup := s2.imp fun {a b} hab e => by
    subst e
    have hab : ltT a a = true := hab
    rw [ltT_irrefl] at hab
    cases hab
  have p : ts.Perm (sortU us) := by
    have a : ∀ t ∈ ts, t ∈ sortU us := fun t ht => (sortU_mem us t).mpr ((h t).mp ht)
    have b : ∀ t ∈ sortU us, t ∈ ts := fun t ht => (h t).mpr ((sortU_mem us t).mp ht)
    have l1 : (sortU us).length ≤ ts.length := by
      have := List.Nodup.length_le_of_subset nd2 b
      exact this
    exact perm_of_sub nd a l1
  exact sort_uniq (sortT_sorted ts) le ((sortT_perm ts).trans p)
end Mi
namespace Mi
local macro_rules | `(tactic| array_mem_dec) => `(tactic| repeat (first | (with_reducible refine t_seq ?_) | (with_reducible refine t_skip ?_) | (with_reducible refine t_asg ?_) | (with_reducible refine t_ret ?_) | (with_reducible refine t_expr ?_) | (with_reducible refine t_put ?_) | (with_reducible refine t_ite ?_) | (with_reducible refine t_for ?_) | (with_reducible refine t_asgT ?_) | ((with_reducible apply v_var); rfl) | ((with_reducible apply b_var); rfl) | ((with_reducible apply i_var); rfl) | (with_reducible refine v_lit ?_) | (with_reducible refine v_ix ?_) | (with_reducible refine v_bin ?_) | (with_reducible refine v_cmp ?_) | (with_reducible refine v_call ?_) | (with_reducible refine v_tup ?_) | (with_reducible refine v_lst ?_) | (with_reducible refine v_new ?_) | (with_reducible refine v_fn ?_) | (with_reducible refine v_isi ?_) | (with_reducible refine v_mt ?_) | (with_reducible refine v_and ?_) | (with_reducible refine v_or ?_) | (with_reducible refine v_not ?_) | (with_reducible refine v_ite ?_) | (with_reducible refine v_neg ?_) | (with_reducible refine v_chain ?_) | (with_reducible refine v_isN ?_) | (with_reducible refine v_isB ?_) | (with_reducible refine v_lc ?_) | (with_reducible refine a_cons ?_) | (with_reducible refine a_nil ?_) | (with_reducible refine b_cmp ?_) | (with_reducible refine b_and ?_) | (with_reducible refine b_or ?_) | (with_reducible refine b_not ?_) | (with_reducible refine b_call ?_) | (with_reducible refine b_isi ?_) | (with_reducible refine b_lit ?_) | (with_reducible refine b_isN ?_) | (with_reducible refine b_isB ?_) | (with_reducible refine b_chain ?_) | (with_reducible refine b_mt ?_) | (with_reducible refine b_fn ?_) | (with_reducible refine i_rng ?_) | (with_reducible refine i_ix ?_) | (with_reducible refine i_fn ?_) | (with_reducible refine i_call ?_) | (with_reducible refine i_bin ?_) | (with_reducible refine i_lst ?_) | (with_reducible refine i_sortK ?_) | (with_reducible refine i_tup ?_) | (with_reducible refine i_lc ?_) | (with_reducible refine v_dcpy ?_) | (with_reducible refine v_lnew ?_) | refine ⟨Nat.le_of_ble_eq_true rfl, ?_⟩ | refine ⟨_, rfl, ?_⟩))
/-! what is asked -/
abbrev kIs : Txt := [105, 115]
abbrev kHas : Txt := [104, 97, 115]
def askV (is : Bool) (w : Txt) : Val := .tup [.str (match is with | true => kIs | false => kHas), .str w]
def ansB (is : Bool) (w h : Txt) : Bool := match is with
  | true => (h == w) || ((w == kShape) && (h.take 6 == kShape_))
  | false => (h.take 6 == kShape_) && decide (w ∈ splitC 32 (h.drop 6))
section
variable {p : Prg} (hf : p.fns[5]? = some d_fits_ask) (ha : p.fns[17]? = some d_law_answers)
include hf in
theorem fits_ok (m : Nat) (st : Store) (is : Bool) (w h : Txt) (hl : h.length ≤ 300) : Ret (callN p (m + 1) 5 [.str h, askV is w] st) fun r s => r = .bl (ansB is w h) ∧ s = st := by
  have e1 : cut h none (some 6) = h.take 6 := cut_to 6
  have e2 : cut h (some 6) none = h.drop 6 := cut_from 6
  refine call_of hf rfl ?_
  simp only [d_fits_ask, List.map_cons, List.map_nil, List.length_cons, List.length_nil, List.cons_append, List.nil_append, Nat.reduceAdd, Nat.reduceSub, Nat.zero_add, Nat.add_zero, Nat.sub_self, Nat.sub_zero, List.replicate]
  cases is with
  | true =>
    simp only [askV]
    array_mem_dec
    refine iteT ?_
    array_mem_dec
    refine ⟨fun z => ?_, fun z => ?_⟩
    · have z : (h == w) = false := z
      array_mem_dec
      refine ⟨fun y => ?_, fun y => ?_⟩
      · have y : (w == kShape) = true := y
        array_mem_dec
        refine v_sl ?_
        array_mem_dec
        refine o_nil (o_int ⟨_, rfl, ?_⟩)
        array_mem_dec
        refine ⟨?_, rfl⟩
        show Val.bl (cut h none (some 6) == kShape_) = Val.bl ((h == w) || ((w == kShape) && (h.take 6 == kShape_)))
        rw [e1, z, y]; rfl
      · have y : (w == kShape) = false := y
        refine ⟨?_, rfl⟩
        show Val.bl false = Val.bl ((h == w) || ((w == kShape) && (h.take 6 == kShape_)))
        rw [z, y]; rfl
    · have z : (h == w) = true := z
      refine ⟨?_, rfl⟩
      show Val.bl true = Val.bl ((h == w) || ((w == kShape) && (h.take 6 == kShape_)))
      rw [z]; rfl
  | false =>
    simp only [askV]
    array_mem_dec
    refine iteF ?_
    array_mem_dec
    refine v_sl ?_
    array_mem_dec
    refine o_nil (o_int ⟨_, rfl, ?_⟩)
    array_mem_dec
    refine ⟨fun z => ?_, fun z => ?_⟩
    · have z : (cut h none (some 6) == kShape_) = true := z
      rw [e1] at z
      array_mem_dec
      refine v_sl ?_
      array_mem_dec
      refine o_int (o_nil ⟨_, rfl, rfl, ?_⟩)
      array_mem_dec
      refine ⟨(.lst ((splitC 32 (h.drop 6)).map .str), st), ?_, ?_⟩
      · simp only [mtV]
        rw [e2, if_pos ⟨by decide, by rw [show PySem.sizeLine = 16777216 from rfl]; simp; omega⟩]
      refine ⟨_, in_strs, ?_, rfl⟩
      show Val.bl _ = Val.bl ((h.take 6 == kShape_) && decide (w ∈ splitC 32 (h.drop 6)))
      rw [z]; rfl
    · have z : (cut h none (some 6) == kShape_) = false := z
      rw [e1] at z
      refine ⟨?_, rfl⟩
      show Val.bl false = Val.bl ((h.take 6 == kShape_) && decide (w ∈ splitC 32 (h.drop 6)))
      rw [z]; rfl
include ha in
theorem answers_ok (m : Nat) (st : Store) (is : Bool) (w h : Txt) (hl : h.length ≤ 300) : Ret (callN p (m + 1) 17 [.str h, askV is w] st) fun r s => r = .bl (ansB is w h) ∧ s = st := by
  have e1 : kShape_.isPrefixOf h = (h.take 6 == kShape_) := pre_take kShape_ h
  refine call_of ha rfl ?_
  simp only [d_law_answers, List.map_cons, List.map_nil, List.length_cons, List.length_nil, List.cons_append, List.nil_append, Nat.reduceAdd, Nat.reduceSub, Nat.zero_add, Nat.add_zero, Nat.sub_self, Nat.sub_zero, List.replicate]
  cases is with
  | true =>
    simp only [askV]
    array_mem_dec
    refine iteT ?_
    array_mem_dec
    refine ⟨fun z => ?_, fun z => ?_⟩
    · have z : (h == w) = false := z
      array_mem_dec
      refine ⟨fun y => ?_, fun y => ?_⟩
      · have y : (w == kShape) = true := y
        array_mem_dec
        refine ⟨rfl, ?_⟩
        array_mem_dec
        refine ⟨?_, rfl⟩
        show Val.bl (kShape_.isPrefixOf h) = Val.bl ((h == w) || ((w == kShape) && (h.take 6 == kShape_)))
        rw [e1, z, y]; rfl
      · have y : (w == kShape) = false := y
        refine ⟨?_, rfl⟩
        show Val.bl false = Val.bl ((h == w) || ((w == kShape) && (h.take 6 == kShape_)))
        rw [z, y]; rfl
    · have z : (h == w) = true := z
      refine ⟨?_, rfl⟩
      show Val.bl true = Val.bl ((h == w) || ((w == kShape) && (h.take 6 == kShape_)))
      rw [z]; rfl
  | false =>
    simp only [askV]
    array_mem_dec
    refine iteF ?_
    array_mem_dec
    refine ⟨rfl, ?_⟩
    array_mem_dec
    refine ⟨fun z => ?_, fun z => ?_⟩
    · have z : kShape_.isPrefixOf h = true := z
      rw [e1] at z
      array_mem_dec
      refine v_sl ?_
      array_mem_dec
      refine ⟨rfl, ?_⟩
      array_mem_dec
      refine ⟨(.lst ((splitC 32 h).map .str), st), ?_, ?_⟩
      · simp only [mtV]
        rw [if_pos ⟨by decide, by rw [show PySem.sizeLine = 16777216 from rfl]; omega⟩]
      refine o_int (o_nil ⟨_, rfl, ?_⟩)
      have e3 : h = [115, 104, 97, 112, 101] ++ 32 :: h.drop 6 := by
        have := List.take_append_drop 6 h
        rw [eq_of_beq z] at this
        exact this.symm
      have e4 : cut ((splitC 32 h).map Val.str) (some 1) none = (splitC 32 (h.drop 6)).map .str := by
        rw [show (1 : Int) = ((1 : Nat) : Int) from rfl, cut_from]
        conv => lhs; rw [e3]
        rw [splitC_app (by decide)]
        simp
      refine ⟨decide (w ∈ splitC 32 (h.drop 6)), ?_, ?_, rfl⟩
      · show inV' st (.str w) (cut _ _ _) = _
        rw [e4]; exact in_strs
      · show Val.bl _ = Val.bl ((h.take 6 == kShape_) && decide (w ∈ splitC 32 (h.drop 6)))
        rw [z]; rfl
    · have z : kShape_.isPrefixOf h = false := z
      rw [e1] at z
      refine ⟨?_, rfl⟩
      show Val.bl false = Val.bl ((h.take 6 == kShape_) && decide (w ∈ splitC 32 (h.drop 6)))
      rw [z]; rfl
end
end Mi
namespace Mi
local macro_rules | `(tactic| array_mem_dec) => `(tactic| repeat (first | (with_reducible refine t_seq ?_) | (with_reducible refine t_skip ?_) | (with_reducible refine t_asg ?_) | (with_reducible refine t_ret ?_) | (with_reducible refine t_expr ?_) | (with_reducible refine t_put ?_) | (with_reducible refine t_ite ?_) | (with_reducible refine t_for ?_) | (with_reducible refine t_asgT ?_) | ((with_reducible apply v_var); rfl) | ((with_reducible apply b_var); rfl) | ((with_reducible apply i_var); rfl) | (with_reducible refine v_lit ?_) | (with_reducible refine v_ix ?_) | (with_reducible refine v_bin ?_) | (with_reducible refine v_cmp ?_) | (with_reducible refine v_call ?_) | (with_reducible refine v_tup ?_) | (with_reducible refine v_lst ?_) | (with_reducible refine v_new ?_) | (with_reducible refine v_fn ?_) | (with_reducible refine v_isi ?_) | (with_reducible refine v_mt ?_) | (with_reducible refine v_and ?_) | (with_reducible refine v_or ?_) | (with_reducible refine v_not ?_) | (with_reducible refine v_ite ?_) | (with_reducible refine v_neg ?_) | (with_reducible refine v_chain ?_) | (with_reducible refine v_isN ?_) | (with_reducible refine v_isB ?_) | (with_reducible refine v_lc ?_) | (with_reducible refine a_cons ?_) | (with_reducible refine a_nil ?_) | (with_reducible refine b_cmp ?_) | (with_reducible refine b_and ?_) | (with_reducible refine b_or ?_) | (with_reducible refine b_not ?_) | (with_reducible refine b_call ?_) | (with_reducible refine b_isi ?_) | (with_reducible refine b_lit ?_) | (with_reducible refine b_isN ?_) | (with_reducible refine b_isB ?_) | (with_reducible refine b_chain ?_) | (with_reducible refine b_mt ?_) | (with_reducible refine b_fn ?_) | (with_reducible refine i_rng ?_) | (with_reducible refine i_ix ?_) | (with_reducible refine i_fn ?_) | (with_reducible refine i_call ?_) | (with_reducible refine i_bin ?_) | (with_reducible refine i_lst ?_) | (with_reducible refine i_sortK ?_) | (with_reducible refine i_tup ?_) | (with_reducible refine i_lc ?_) | (with_reducible refine v_dcpy ?_) | (with_reducible refine v_lnew ?_) | refine ⟨Nat.le_of_ble_eq_true rfl, ?_⟩ | refine ⟨_, rfl, ?_⟩))
abbrev hsO (ts : List Txt) : Ob := .dct ts (ts.map fun _ => .bl true)
theorem setA_true (t : Txt) : ∀ ts : List Txt, setA t (.bl true) ts (ts.map fun _ => .bl true) = ts.map fun _ => .bl true
  | [] => rfl
  | x :: ts => by
    simp only [List.map_cons, setA, setA_true t ts]
    split <;> rfl
theorem putD_true {t : Txt} {ts : List Txt} : putD t (.bl true) ts (ts.map fun _ => .bl true) = ((if t ∈ ts then ts else ts ++ [t]), (if t ∈ ts then ts else ts ++ [t]).map fun _ => .bl true) := by
  unfold putD
  split
  · rw [setA_true]
  · simp
section
variable {p : Prg} (hc : p.fns[3]? = some d_head_of_choice) (hh : p.fns[4]? = some d_heads_of)
include hc hh in
theorem hof_ok (m : Nat) (st : Store) (b : Bd) (nd : (bks b).Nodup) (x : Txt) (ks : List Ch) (hb : (x, ks) ∈ b) (hl : ks.length ≤ 60) (hs : ∀ k ∈ ks, ∀ fs, k = .shp fs → fs.length ≤ 1000 ∧ (joinT [32] (fs.map (·.1))).length ≤ 10000) :
    Ret (callN p (m + 2) 4 [(Ch.ltr x).v, .dct (bks b) (bxs b)] st) fun v s => v = .tup ((Ch.heads ks).map .str) ∧ Gr st s := by
  refine call_of hh rfl ?_
  simp only [d_heads_of, List.map_cons, List.map_nil, List.length_cons, List.length_nil, List.cons_append, List.nil_append, Nat.reduceAdd, Nat.reduceSub, Nat.zero_add, Nat.add_zero, Nat.sub_self, Nat.sub_zero, List.replicate]
  simp only [Ch.v]
  array_mem_dec
  refine iteF ?_
  array_mem_dec
  refine v_dnew2 (ks := []) (xs := []) (D := ([], [])) ?_
  array_mem_dec
  refine ⟨rfl, Nat.le_of_ble_eq_true rfl, rfl, ?_⟩
  array_mem_dec
  refine ⟨_, look_b nd hb, ?_⟩
  array_mem_dec
  rw [ckN]
  refine for_inv (fun j η s => (∃ y, η = [some (.tup [.str kLetter, .str x]), some (.dct (bks b) (bxs b)), some (.loc st.length), y]) ∧ ∃ ts, s = st ++ [hsO ts] ∧ ts.Nodup ∧ (∀ t, t ∈ ts ↔ t ∈ (ks.take j).map Ch.hd) ∧ ts.length ≤ j) ?_ ?_ ?_
  · exact ⟨⟨none, rfl⟩, [], rfl, by simp, by simp, by simp⟩
  · rintro j z hz η s ⟨⟨y, rfl⟩, ts, rfl, n1, n2, n3⟩
    rw [Ch.vs_map, List.getElem?_map] at hz
    cases hq : ks[j]? with
    | none => rw [hq] at hz; cases hz
    | some k =>
      rw [hq] at hz
      cases hz
      have hj := (List.getElem?_eq_some_iff.mp hq).1
      refine ⟨_, rfl, ?_⟩
      array_mem_dec
      refine (hoc_ok hc m _ k (hs k (List.mem_of_getElem? hq))).imp fun v s1 ⟨e1, e2⟩ => ?_
      subst e1 e2
      have lt : (ts.map fun _ => Val.bl true).length < PySem.sizeLine := by
        rw [List.length_map, show PySem.sizeLine = 16777216 from rfl]; omega
      refine ⟨st ++ [hsO (if k.hd ∈ ts then ts else ts ++ [k.hd])], ?_, ?_⟩
      · simp only [putV, last_at, keyOf, Option.bind, if_pos lt, putD_true, set_last]
      array_mem_dec
      refine ⟨⟨_, rfl⟩, _, rfl, ?_, fun t => ?_, ?_⟩
      · split
        · exact n1
        · rename_i no
          rw [List.nodup_append]
          refine ⟨n1, by simp, fun a ha b hb e => ?_⟩
          simp at hb
          subst hb e
          exact no ha
      · rw [List.take_succ, hq, List.map_append, List.mem_append]
        simp only [Option.toList_some, List.map_cons, List.map_nil, List.mem_singleton]
        rw [← n2]
        split
        · rename_i yes
          exact ⟨.inl, fun h => h.elim id fun e => e ▸ yes⟩
        · rw [List.mem_append, List.mem_singleton]
      · split
        · omega
        · rw [List.length_append]; simp; omega
  · rintro η s ⟨⟨y, rfl⟩, ts, rfl, n1, n2, n3⟩
    have lv : (Ch.vs ks).length = ks.length := by rw [Ch.vs_map, List.length_map]
    have n2 : ∀ t, t ∈ ts ↔ t ∈ ks.map Ch.hd := fun t => by rw [n2, lv, List.take_length]
    have n3 : ts.length ≤ (Ch.vs ks).length := n3
    array_mem_dec
    refine ⟨.lst (ts.map .str), ?_, ?_⟩
    · simp only [fnV, listV, asS, asL, asD, last_at, Option.map_some]
    array_mem_dec
    refine ⟨_, sort_ok (by omega), ?_⟩
    array_mem_dec
    refine ⟨?_, Gr.one⟩
    rw [sortT_U n1 n2]; rfl
end
end Mi
namespace Mi
def hsx (b : Bd) (x : Txt) : List Txt := match b.find? fun q => q.1 == x with
  | some q => Ch.heads q.2
  | none => []
theorem hsx_of {x : Txt} {ks : List Ch} : ∀ {b : Bd}, (bks b).Nodup → (x, ks) ∈ b → hsx b x = Ch.heads ks
  | [], _, h => by cases h
  | q :: b, nd, h => by
    simp only [bks, List.map_cons] at nd
    unfold hsx
    rw [List.find?_cons]
    rcases List.mem_cons.mp h with rfl | h
    · simp
    · have ne : (q.1 == x) = false := by
        refine beq_false_of_ne fun e => ?_
        subst e
        exact (List.nodup_cons.mp nd).1 (List.mem_map.mpr ⟨_, h, rfl⟩)
      rw [ne]
      have := hsx_of (b := b) (List.nodup_cons.mp nd).2 h
      unfold hsx at this
      exact this
def BNOk (b : Bd) : Prop := (bks b).Nodup ∧ ∀ q ∈ b, q.2.length ≤ 60 ∧ (∀ k ∈ q.2, k.hd.length ≤ 300) ∧ ∀ k ∈ q.2, ∀ fs, k = .shp fs → fs.length ≤ 1000 ∧ (joinT [32] (fs.map (·.1))).length ≤ 10000
end Mi
namespace Mi
local macro_rules | `(tactic| array_mem_dec) => `(tactic| repeat (first | (with_reducible refine t_seq ?_) | (with_reducible refine t_skip ?_) | (with_reducible refine t_asg ?_) | (with_reducible refine t_ret ?_) | (with_reducible refine t_expr ?_) | (with_reducible refine t_put ?_) | (with_reducible refine t_ite ?_) | (with_reducible refine t_for ?_) | (with_reducible refine t_asgT ?_) | ((with_reducible apply v_var); rfl) | ((with_reducible apply b_var); rfl) | ((with_reducible apply i_var); rfl) | (with_reducible refine v_lit ?_) | (with_reducible refine v_ix ?_) | (with_reducible refine v_bin ?_) | (with_reducible refine v_cmp ?_) | (with_reducible refine v_call ?_) | (with_reducible refine v_tup ?_) | (with_reducible refine v_lst ?_) | (with_reducible refine v_new ?_) | (with_reducible refine v_fn ?_) | (with_reducible refine v_isi ?_) | (with_reducible refine v_mt ?_) | (with_reducible refine v_and ?_) | (with_reducible refine v_or ?_) | (with_reducible refine v_not ?_) | (with_reducible refine v_ite ?_) | (with_reducible refine v_neg ?_) | (with_reducible refine v_chain ?_) | (with_reducible refine v_isN ?_) | (with_reducible refine v_isB ?_) | (with_reducible refine v_lc ?_) | (with_reducible refine a_cons ?_) | (with_reducible refine a_nil ?_) | (with_reducible refine b_cmp ?_) | (with_reducible refine b_and ?_) | (with_reducible refine b_or ?_) | (with_reducible refine b_not ?_) | (with_reducible refine b_call ?_) | (with_reducible refine b_isi ?_) | (with_reducible refine b_lit ?_) | (with_reducible refine b_isN ?_) | (with_reducible refine b_isB ?_) | (with_reducible refine b_chain ?_) | (with_reducible refine b_mt ?_) | (with_reducible refine b_fn ?_) | (with_reducible refine i_rng ?_) | (with_reducible refine i_ix ?_) | (with_reducible refine i_fn ?_) | (with_reducible refine i_call ?_) | (with_reducible refine i_bin ?_) | (with_reducible refine i_lst ?_) | (with_reducible refine i_sortK ?_) | (with_reducible refine i_tup ?_) | (with_reducible refine i_lc ?_) | (with_reducible refine v_dcpy ?_) | (with_reducible refine v_lnew ?_) | refine ⟨Nat.le_of_ble_eq_true rfl, ?_⟩ | refine ⟨_, rfl, ?_⟩))
section
variable {p : Prg} (hh : p.fns[4]? = some d_heads_of)
include hh in
theorem hof_cut (m : Nat) (st : Store) (x : Txt) (hs : List Txt) (bv : Val) : Ret (callN p (m + 1) 4 [(Ch.cut x hs).v, bv] st) fun v s => v = .tup (hs.map .str) ∧ s = st := by
  refine call_of hh rfl ?_
  simp only [d_heads_of, List.map_cons, List.map_nil, List.length_cons, List.length_nil, List.cons_append, List.nil_append, Nat.reduceAdd, Nat.reduceSub, Nat.zero_add, Nat.add_zero, Nat.sub_self, Nat.sub_zero, List.replicate]
  simp only [Ch.v]
  array_mem_dec
  refine iteT ?_
  array_mem_dec
  exact ⟨rfl, rfl⟩
end
end Mi
namespace Mi
local macro_rules | `(tactic| array_mem_dec) => `(tactic| repeat (first | (with_reducible refine t_seq ?_) | (with_reducible refine t_skip ?_) | (with_reducible refine t_asg ?_) | (with_reducible refine t_ret ?_) | (with_reducible refine t_expr ?_) | (with_reducible refine t_put ?_) | (with_reducible refine t_ite ?_) | (with_reducible refine t_for ?_) | (with_reducible refine t_asgT ?_) | ((with_reducible apply v_var); rfl) | ((with_reducible apply b_var); rfl) | ((with_reducible apply i_var); rfl) | (with_reducible refine v_lit ?_) | (with_reducible refine v_ix ?_) | (with_reducible refine v_bin ?_) | (with_reducible refine v_cmp ?_) | (with_reducible refine v_call ?_) | (with_reducible refine v_tup ?_) | (with_reducible refine v_lst ?_) | (with_reducible refine v_new ?_) | (with_reducible refine v_fn ?_) | (with_reducible refine v_isi ?_) | (with_reducible refine v_mt ?_) | (with_reducible refine v_and ?_) | (with_reducible refine v_or ?_) | (with_reducible refine v_not ?_) | (with_reducible refine v_ite ?_) | (with_reducible refine v_neg ?_) | (with_reducible refine v_chain ?_) | (with_reducible refine v_isN ?_) | (with_reducible refine v_isB ?_) | (with_reducible refine v_lc ?_) | (with_reducible refine a_cons ?_) | (with_reducible refine a_nil ?_) | (with_reducible refine b_cmp ?_) | (with_reducible refine b_and ?_) | (with_reducible refine b_or ?_) | (with_reducible refine b_not ?_) | (with_reducible refine b_call ?_) | (with_reducible refine b_isi ?_) | (with_reducible refine b_lit ?_) | (with_reducible refine b_isN ?_) | (with_reducible refine b_isB ?_) | (with_reducible refine b_chain ?_) | (with_reducible refine b_mt ?_) | (with_reducible refine b_fn ?_) | (with_reducible refine i_rng ?_) | (with_reducible refine i_ix ?_) | (with_reducible refine i_fn ?_) | (with_reducible refine i_call ?_) | (with_reducible refine i_bin ?_) | (with_reducible refine i_lst ?_) | (with_reducible refine i_sortK ?_) | (with_reducible refine i_tup ?_) | (with_reducible refine i_lc ?_) | (with_reducible refine v_dcpy ?_) | (with_reducible refine v_lnew ?_) | refine ⟨Nat.le_of_ble_eq_true rfl, ?_⟩ | refine ⟨_, rfl, ?_⟩))
/-- a letter's heads, cut -/
def cutTo (x : Txt) (hs H : List Txt) : List Ch := if hs = [] then [] else if hs = H then [.ltr x] else [.cut x hs]
def hdOk (h : Txt) : Prop := h.length ≤ 300
section
variable {p : Prg} (hc : p.fns[3]? = some d_head_of_choice) (hh : p.fns[4]? = some d_heads_of) (hf : p.fns[5]? = some d_fits_ask) (hx : p.fns[6]? = some d_cut_to)
include hc hh hx in
theorem cutto_ok (m : Nat) (st : Store) (b : Bd) (nd : (bks b).Nodup) (x : Txt) (ks : List Ch) (hb : (x, ks) ∈ b) (hl : ks.length ≤ 60) (hs : ∀ k ∈ ks, ∀ fs, k = .shp fs → fs.length ≤ 1000 ∧ (joinT [32] (fs.map (·.1))).length ≤ 10000) (gs : List Txt) :
    Ret (callN p (m + 3) 6 [.str x, .tup (gs.map .str), .dct (bks b) (bxs b)] st) fun v s => v = kdT (cutTo x gs (Ch.heads ks)) ∧ Gr st s := by
  refine call_of hx rfl ?_
  simp only [d_cut_to, List.map_cons, List.map_nil, List.length_cons, List.length_nil, List.cons_append, List.nil_append, Nat.reduceAdd, Nat.reduceSub, Nat.zero_add, Nat.add_zero, Nat.sub_self, Nat.sub_zero, List.replicate]
  array_mem_dec
  refine ⟨fun z => ?_, fun z => ?_⟩
  · have z : (((gs.map Val.str).length : Int) == 0) = true := z
    have : gs = [] := by
      have := eq_of_beq z
      rw [List.length_map] at this
      exact List.length_eq_zero_iff.mp (by omega)
    subst this
    array_mem_dec
    exact ⟨rfl, Gr.refl⟩
  have z : (((gs.map Val.str).length : Int) == 0) = false := z
  have ne : gs ≠ [] := fun e => by subst e; simp at z
  array_mem_dec
  have hof := hof_ok hc hh m st b nd x ks hb hl hs
  simp only [Ch.v] at hof
  refine hof.imp fun v s ⟨e1, g⟩ => ?_
  subst e1
  refine ⟨_, eq_tups, fun y => ?_, fun y => ?_⟩
  · array_mem_dec
    have y : gs = Ch.heads ks := by simpa using y
    exact ⟨by rw [cutTo, if_neg ne, if_pos y]; rfl, g⟩
  · array_mem_dec
    have y : ¬ gs = Ch.heads ks := by simpa using y
    exact ⟨by rw [cutTo, if_neg ne, if_neg y]; rfl, g⟩
end
end Mi
namespace Mi
local macro_rules | `(tactic| array_mem_dec) => `(tactic| repeat (first | (with_reducible refine t_seq ?_) | (with_reducible refine t_skip ?_) | (with_reducible refine t_asg ?_) | (with_reducible refine t_ret ?_) | (with_reducible refine t_expr ?_) | (with_reducible refine t_put ?_) | (with_reducible refine t_ite ?_) | (with_reducible refine t_for ?_) | (with_reducible refine t_asgT ?_) | ((with_reducible apply v_var); rfl) | ((with_reducible apply b_var); rfl) | ((with_reducible apply i_var); rfl) | (with_reducible refine v_lit ?_) | (with_reducible refine v_ix ?_) | (with_reducible refine v_bin ?_) | (with_reducible refine v_cmp ?_) | (with_reducible refine v_call ?_) | (with_reducible refine v_tup ?_) | (with_reducible refine v_lst ?_) | (with_reducible refine v_new ?_) | (with_reducible refine v_fn ?_) | (with_reducible refine v_isi ?_) | (with_reducible refine v_mt ?_) | (with_reducible refine v_and ?_) | (with_reducible refine v_or ?_) | (with_reducible refine v_not ?_) | (with_reducible refine v_ite ?_) | (with_reducible refine v_neg ?_) | (with_reducible refine v_chain ?_) | (with_reducible refine v_isN ?_) | (with_reducible refine v_isB ?_) | (with_reducible refine v_lc ?_) | (with_reducible refine a_cons ?_) | (with_reducible refine a_nil ?_) | (with_reducible refine b_cmp ?_) | (with_reducible refine b_and ?_) | (with_reducible refine b_or ?_) | (with_reducible refine b_not ?_) | (with_reducible refine b_call ?_) | (with_reducible refine b_isi ?_) | (with_reducible refine b_lit ?_) | (with_reducible refine b_isN ?_) | (with_reducible refine b_isB ?_) | (with_reducible refine b_chain ?_) | (with_reducible refine b_mt ?_) | (with_reducible refine b_fn ?_) | (with_reducible refine i_rng ?_) | (with_reducible refine i_ix ?_) | (with_reducible refine i_fn ?_) | (with_reducible refine i_call ?_) | (with_reducible refine i_bin ?_) | (with_reducible refine i_lst ?_) | (with_reducible refine i_sortK ?_) | (with_reducible refine i_tup ?_) | (with_reducible refine i_lc ?_) | (with_reducible refine v_dcpy ?_) | (with_reducible refine v_lnew ?_) | refine ⟨Nat.le_of_ble_eq_true rfl, ?_⟩ | refine ⟨_, rfl, ?_⟩))
/-! kinds narrowed -/
def sideC (b : Bd) (f : Txt → Bool) : Ch → List Ch
  | .ltr x => cutTo x ((hsx b x).filter f) (hsx b x)
  | .cut x hs => cutTo x (hs.filter f) (hsx b x)
  | c => if f c.hd then [c] else []
theorem cutTo_len (x : Txt) (hs H : List Txt) : (cutTo x hs H).length ≤ 1 := by
  unfold cutTo; split
  · simp
  · split <;> simp
theorem sideC_len (b : Bd) (f : Txt → Bool) (c : Ch) : (sideC b f c).length ≤ 1 := by
  cases c <;> simp only [sideC] <;> first | exact cutTo_len _ _ _ | (split <;> simp)
theorem flat_len {b : Bd} {f : Txt → Bool} : ∀ ks : List Ch, (ks.map (sideC b f)).flatten.length ≤ ks.length
  | [] => by simp
  | c :: ks => by
    have h1 := sideC_len b f c
    have h2 := flat_len (b := b) (f := f) ks
    simp only [List.map_cons, List.flatten_cons, List.length_append, List.length_cons]
    omega
def tstV (g : Txt → Bool) : Val → Bool
  | .str h => g h
  | _ => false
theorem filt (g : Txt → Bool) : ∀ H : List Txt, (((H.map Val.str).filter (tstV g)).map fun v => v) = (H.filter g).map .str
  | [] => rfl
  | h :: H => by
    have e : tstV g (.str h) = g h := rfl
    simp only [List.map_cons, List.filter_cons, e]
    cases g h with
    | true => simp only [if_true, List.map_cons, filt g H]
    | false => simpa using filt g H
abbrev Ws (st : Store) (ys ns : List (List Ch)) (os : List Ob) : Store := st ++ (.lst (ys.map kdT) :: .lst (ns.map kdT) :: os)
section
variable {st : Store} {ys ns : List (List Ch)} {os : List Ob}
theorem Ws.y : (Ws st ys ns os)[st.length]? = some (.lst (ys.map kdT)) := by simp [Ws]
theorem Ws.n : (Ws st ys ns os)[st.length + 1]? = some (.lst (ns.map kdT)) := by simp [Ws]
theorem Ws.py {k : List Ch} (h : ys.length ≤ 1000) : mtV .append (.loc st.length) [kdT k] (Ws st ys ns os) = some (.non, Ws st (ys ++ [k]) ns os) := by
  have lt : (ys.map kdT).length < PySem.sizeLine := by rw [List.length_map, show PySem.sizeLine = 16777216 from rfl]; omega
  simp only [mtV, Ws.y, if_pos lt]
  simp [Ws]
theorem Ws.pn {k : List Ch} (h : ns.length ≤ 1000) : mtV .append (.loc (st.length + 1)) [kdT k] (Ws st ys ns os) = some (.non, Ws st ys (ns ++ [k]) os) := by
  have lt : (ns.map kdT).length < PySem.sizeLine := by rw [List.length_map, show PySem.sizeLine = 16777216 from rfl]; omega
  simp only [mtV, Ws.n, if_pos lt]
  simp [Ws]
theorem Ws.my : mtOk .append (.loc st.length) (Ws st ys ns os) = true := by simp only [mtOk, Ws.y]
theorem Ws.mn : mtOk .append (.loc (st.length + 1)) (Ws st ys ns os) = true := by simp only [mtOk, Ws.n]
theorem Ws.gr {s : Store} (h : Gr (Ws st ys ns os) s) : ∃ os', s = Ws st ys ns os' := by
  obtain ⟨x, rfl⟩ := h
  exact ⟨os ++ x, by simp [Ws]⟩
end
section
variable {p : Prg} (hk : p.fns[0]? = some d_shown_kind) (hs : p.fns[1]? = some d_shown_choice) (hj : p.fns[2]? = some d_joined) (hc : p.fns[3]? = some d_head_of_choice) (hh : p.fns[4]? = some d_heads_of) (hf : p.fns[5]? = some d_fits_ask) (hx : p.fns[6]? = some d_cut_to) (hn : p.fns[7]? = some d_narrowed)
include hf in
theorem good_ok (K : Nat) (st : Store) (is : Bool) (w : Txt) (η : Env) (H : List Txt) (hl : ∀ h ∈ H, h.length ≤ 300) (hH : H.length ≤ 1000) (h2 : η[2]? = some (some (askV is w))) (h6 : η[6]? = some (some (.tup (H.map .str)))) (h9 : 9 < η.length) :
    Ret (V ⟨callN p (K + 1), p.gs⟩ (.fn .tuple (.cons (.lc [9] (.nm 9) (.var 6) (.call 5 (.cons (.var 9) (.cons (.var 2) .nil))) (.var 9)) .nil)) η st) fun v s => v = .tup ((H.filter (ansB is w)).map .str) ∧ s = st := by
  have at9 : ∀ v : Val, ((wipeE η [9]).set 9 (some v))[9]? = some (some v) := fun v => by simp [wipeE, h9]
  have at2 : ∀ v : Val, ((wipeE η [9]).set 9 (some v))[2]? = some (some (askV is w)) := fun v => by simp [wipeE, h2]
  refine v_fn (a_cons (v_lc (i_var h6 ⟨_, rfl, ?_⟩)))
  rw [ckN]
  refine lc_pure (tstV (ansB is w)) (fun v => v) _ _ (fun x hx => ?_) ?_ ?_
  · obtain ⟨h, hh', rfl⟩ := List.mem_map.mp hx
    refine ⟨_, rfl, b_call (a_cons (v_var (at9 _) (a_cons (v_var (at2 _) (a_nil ?_))))), fun _ => v_var (at9 _) ⟨rfl, rfl⟩⟩
    exact (fits_ok hf K st is w h (hl h hh')).imp fun r s ⟨e1, e2⟩ => ⟨_, e1, rfl, e2⟩
  · simp only [List.length_nil, List.length_map, show PySem.sizeLine = 16777216 from rfl]; omega
  · refine a_nil ⟨_, rfl, ?_, rfl⟩
    rw [List.nil_append, filt]
include hf in
theorem bad_ok (K : Nat) (st : Store) (is : Bool) (w : Txt) (η : Env) (H : List Txt) (hl : ∀ h ∈ H, h.length ≤ 300) (hH : H.length ≤ 1000) (h2 : η[2]? = some (some (askV is w))) (h6 : η[6]? = some (some (.tup (H.map .str)))) (h9 : 9 < η.length) :
    Ret (V ⟨callN p (K + 1), p.gs⟩ (.fn .tuple (.cons (.lc [9] (.nm 9) (.var 6) (.not (.call 5 (.cons (.var 9) (.cons (.var 2) .nil)))) (.var 9)) .nil)) η st) fun v s => v = .tup ((H.filter fun h => !ansB is w h).map .str) ∧ s = st := by
  have at9 : ∀ v : Val, ((wipeE η [9]).set 9 (some v))[9]? = some (some v) := fun v => by simp [wipeE, h9]
  have at2 : ∀ v : Val, ((wipeE η [9]).set 9 (some v))[2]? = some (some (askV is w)) := fun v => by simp [wipeE, h2]
  refine v_fn (a_cons (v_lc (i_var h6 ⟨_, rfl, ?_⟩)))
  rw [ckN]
  refine lc_pure (tstV fun h => !ansB is w h) (fun v => v) _ _ (fun x hx => ?_) ?_ ?_
  · obtain ⟨h, hh', rfl⟩ := List.mem_map.mp hx
    refine ⟨_, rfl, b_not (b_call (a_cons (v_var (at9 _) (a_cons (v_var (at2 _) (a_nil ?_)))))), fun _ => v_var (at9 _) ⟨rfl, rfl⟩⟩
    exact (fits_ok hf K st is w h (hl h hh')).imp fun r s ⟨e1, e2⟩ => ⟨_, e1, rfl, e2⟩
  · simp only [List.length_nil, List.length_map, show PySem.sizeLine = 16777216 from rfl]; omega
  · refine a_nil ⟨_, rfl, ?_, rfl⟩
    rw [List.nil_append, filt]
/-- what narrowing wants of a choice -/
def NOk (b : Bd) (d : Nat) (c : Ch) : Prop := (∀ f, ∀ c' ∈ sideC b f c, TC d c' ∧ c'.sh.length ≤ 1000) ∧ c.hd.length ≤ 300 ∧ (∀ fs, c = .shp fs → fs.length ≤ 1000 ∧ (joinT [32] (fs.map (·.1))).length ≤ 10000) ∧
  (∀ x, c = .ltr x → ∃ ks, (x, ks) ∈ b) ∧ (∀ x hs, c = .cut x hs → (∃ ks, (x, ks) ∈ b) ∧ hs.length ≤ 1000 ∧ ∀ h ∈ hs, h.length ≤ 300)
include hk hs hj hc hh hf hx hn in
theorem narrowed_okP (d m : Nat) (st : Store) (b : Bd) (hb : BNOk b) (is : Bool) (w : Txt) (ks : List Ch) (hl : ks.length ≤ 60) (hks : ∀ c ∈ ks, NOk b d c) :
    Ret (callN p (m + 2 * d + 3 + 1) 7 [kdT ks, .dct (bks b) (bxs b), askV is w] st) fun v s => (∃ Y N, v = .tup [kdT Y, kdT N] ∧ (∀ c, c ∈ Y ↔ c ∈ (ks.map (sideC b (ansB is w))).flatten) ∧ (∀ c, c ∈ N ↔ c ∈ (ks.map (sideC b fun h => !ansB is w h)).flatten) ∧ Y.Pairwise LtSh ∧ N.Pairwise LtSh) ∧ Gr st s := by
  have hds : ∀ {x : Txt} {ls : List Ch}, (x, ls) ∈ b → (Ch.heads ls).length ≤ 1000 ∧ ∀ h ∈ Ch.heads ls, h.length ≤ 300 := fun {x ls} hm => by
    obtain ⟨a1, a2, _⟩ := hb.2 _ hm
    refine ⟨?_, fun h hh' => ?_⟩
    · have := sortU_len (ls.map Ch.hd)
      rw [List.length_map] at this
      have a1 : ls.length ≤ 60 := a1
      have : (Ch.heads ls).length ≤ ls.length := this
      omega
    · obtain ⟨k, hk', rfl⟩ := List.mem_map.mp ((sortU_mem _ _).mp hh')
      exact a2 k hk'
  refine call_of hn rfl ?_
  simp only [d_narrowed, List.map_cons, List.map_nil, List.length_cons, List.length_nil, List.cons_append, List.nil_append, Nat.reduceAdd, Nat.reduceSub, Nat.zero_add, Nat.add_zero, Nat.sub_self, Nat.sub_zero, List.replicate]
  array_mem_dec
  rw [ckN]
  have e0 : (st ++ [Ob.lst []]) ++ [Ob.lst []] = Ws st [] [] [] := by simp [Ws]
  have e1 : (st ++ [Ob.lst []]).length = st.length + 1 := by simp
  rw [e1, e0]
  refine for_inv (fun j η s => (∃ y1 y2 y3 y4, η = [some (kdT ks), some (.dct (bks b) (bxs b)), some (askV is w), some (.loc st.length), some (.loc (st.length + 1)), y1, y2, y3, y4, none]) ∧ ∃ ys ns os, s = Ws st ys ns os ∧ ys.length ≤ j ∧ ns.length ≤ j ∧
    ys.flatten = ((ks.take j).map (sideC b (ansB is w))).flatten ∧ ns.flatten = ((ks.take j).map (sideC b fun h => !ansB is w h)).flatten) ?_ ?_ ?_
  · exact ⟨⟨_, _, _, _, rfl⟩, [], [], [], rfl, by simp, by simp, by simp, by simp⟩
  · rintro j z hz η s ⟨⟨y1, y2, y3, y4, rfl⟩, ys, ns, os, rfl, l1, l2, f1, f2⟩
    rw [Ch.vs_map, List.getElem?_map] at hz
    cases hq : ks[j]? with
    | none => rw [hq] at hz; cases hz
    | some c =>
      rw [hq] at hz
      cases hz
      have hj' := (List.getElem?_eq_some_iff.mp hq).1
      obtain ⟨_, c2, c3, c4, c5⟩ := hks c (List.mem_of_getElem? hq)
      have more : ∀ (g : Ch → List Ch), ((ks.take (j + 1)).map g).flatten = ((ks.take j).map g).flatten ++ g c := fun g => by
        rw [List.take_succ, hq, List.map_append, List.flatten_append]; simp
      refine ⟨_, rfl, ?_⟩
      cases c with
      | ltr x =>
        obtain ⟨ls, hm⟩ := c4 x rfl
        obtain ⟨d1, d2⟩ := hds hm
        obtain ⟨b1, b2, b3⟩ := hb.2 _ hm
        have ehs := hsx_of hb.1 hm
        have hof := hof_ok hc hh (m + 2 * d + 1) (Ws st ys ns os) b hb.1 x ls hm b1 b3
        simp only [Ch.v] at hof ⊢
        array_mem_dec
        refine orT ?_
        refine iteT ?_
        array_mem_dec
        refine hof.imp fun v s1 ⟨ev, g1⟩ => ?_
        subst ev
        obtain ⟨os1, rfl⟩ := Ws.gr g1
        refine t_seq (t_asg ((good_ok (p := p) hf (m + 2 * d + 2) _ is w _ (Ch.heads ls) d2 d1 (by rfl) (by rfl) (by simp)).imp fun v s2 q => ?_))
        obtain ⟨ev, es⟩ := q
        subst ev es
        refine t_seq (t_asg ((bad_ok (p := p) hf (m + 2 * d + 2) _ is w _ (Ch.heads ls) d2 d1 (by rfl) (by rfl) (by simp)).imp fun v s2 q => ?_))
        obtain ⟨ev, es⟩ := q
        subst ev es
        array_mem_dec
        refine ⟨Ws.my, ?_⟩
        array_mem_dec
        refine (cutto_ok hc hh hx (m + 2 * d) _ b hb.1 x ls hm b1 b3 _).imp fun v s2 q => ?_
        obtain ⟨ev, g2⟩ := q
        subst ev
        obtain ⟨os2, rfl⟩ := Ws.gr g2
        array_mem_dec
        refine ⟨_, Ws.py (by omega), ?_⟩
        array_mem_dec
        refine ⟨Ws.mn, ?_⟩
        array_mem_dec
        refine (cutto_ok hc hh hx (m + 2 * d) _ b hb.1 x ls hm b1 b3 _).imp fun v s3 q => ?_
        obtain ⟨ev, g3⟩ := q
        subst ev
        obtain ⟨os3, rfl⟩ := Ws.gr g3
        array_mem_dec
        refine ⟨_, Ws.pn (by omega), ?_⟩
        array_mem_dec
        refine ⟨⟨_, _, _, _, rfl⟩, _, _, os3, rfl, by simp; omega, by simp; omega, ?_, ?_⟩
        · rw [more, List.flatten_append, f1, sideC, ehs]; simp
        · rw [more, List.flatten_append, f2, sideC, ehs]; simp
      | cut x hs' =>
        obtain ⟨⟨ls, hm⟩, d1, d2⟩ := c5 x hs' rfl
        obtain ⟨b1, b2, b3⟩ := hb.2 _ hm
        have ehs := hsx_of hb.1 hm
        have hof := hof_cut hh (m + 2 * d + 2) (Ws st ys ns os) x hs' (.dct (bks b) (bxs b))
        simp only [Ch.v] at hof ⊢
        array_mem_dec
        refine orF ?_
        array_mem_dec
        refine iteT ?_
        array_mem_dec
        refine hof.imp fun v s1 ⟨ev, g1⟩ => ?_
        subst ev
        have g1 : Gr (Ws st ys ns os) s1 := by rw [g1]; exact Gr.refl
        obtain ⟨os1, rfl⟩ := Ws.gr g1
        refine t_seq (t_asg ((good_ok (p := p) hf (m + 2 * d + 2) _ is w _ hs' d2 d1 (by rfl) (by rfl) (by simp)).imp fun v s2 q => ?_))
        obtain ⟨ev, es⟩ := q
        subst ev es
        refine t_seq (t_asg ((bad_ok (p := p) hf (m + 2 * d + 2) _ is w _ hs' d2 d1 (by rfl) (by rfl) (by simp)).imp fun v s2 q => ?_))
        obtain ⟨ev, es⟩ := q
        subst ev es
        array_mem_dec
        refine ⟨Ws.my, ?_⟩
        array_mem_dec
        refine (cutto_ok hc hh hx (m + 2 * d) _ b hb.1 x ls hm b1 b3 _).imp fun v s2 q => ?_
        obtain ⟨ev, g2⟩ := q
        subst ev
        obtain ⟨os2, rfl⟩ := Ws.gr g2
        array_mem_dec
        refine ⟨_, Ws.py (by omega), ?_⟩
        array_mem_dec
        refine ⟨Ws.mn, ?_⟩
        array_mem_dec
        refine (cutto_ok hc hh hx (m + 2 * d) _ b hb.1 x ls hm b1 b3 _).imp fun v s3 q => ?_
        obtain ⟨ev, g3⟩ := q
        subst ev
        obtain ⟨os3, rfl⟩ := Ws.gr g3
        array_mem_dec
        refine ⟨_, Ws.pn (by omega), ?_⟩
        array_mem_dec
        refine ⟨⟨_, _, _, _, rfl⟩, _, _, os3, rfl, by simp; omega, by simp; omega, ?_, ?_⟩
        · rw [more, List.flatten_append, f1, sideC, ehs]; simp
        · rw [more, List.flatten_append, f2, sideC, ehs]; simp
      | num =>
        have hof := hoc_ok hc (m + 2 * d + 2) (Ws st ys ns os) (.num) c3
        simp only [Ch.v] at hof ⊢
        array_mem_dec
        refine orF ?_
        array_mem_dec
        refine iteF ?_
        array_mem_dec
        refine hof.imp fun v s1 q => ?_
        obtain ⟨ev, es⟩ := q
        subst ev es
        array_mem_dec
        refine (fits_ok hf (m + 2 * d + 2) _ is w _ c2).imp fun v s1 q => ?_
        obtain ⟨ev, es⟩ := q
        subst ev es
        refine ⟨_, rfl, fun z => ?_, fun z => ?_⟩
        · array_mem_dec
          refine ⟨Ws.my, ?_⟩
          array_mem_dec
          refine ⟨_, Ws.py (k := [.num]) (by omega), ?_⟩
          array_mem_dec
          refine ⟨⟨_, _, _, _, rfl⟩, _, _, os, rfl, by simp; omega, by omega, ?_, ?_⟩
          · rw [more, List.flatten_append, f1, show sideC b (ansB is w) (.num) = (if ansB is w (Ch.hd (.num)) then [.num] else []) from rfl, if_pos z]; simp
          · rw [more, f2, show sideC b (fun h => !ansB is w h) (.num) = (if (!ansB is w (Ch.hd (.num))) then [.num] else []) from rfl, if_neg (by rw [z]; decide)]; simp
        · array_mem_dec
          refine ⟨Ws.mn, ?_⟩
          array_mem_dec
          refine ⟨_, Ws.pn (k := [.num]) (by omega), ?_⟩
          array_mem_dec
          refine ⟨⟨_, _, _, _, rfl⟩, _, _, os, rfl, by omega, by simp; omega, ?_, ?_⟩
          · rw [more, f1, show sideC b (ansB is w) (.num) = (if ansB is w (Ch.hd (.num)) then [.num] else []) from rfl, if_neg (by rw [z]; decide)]; simp
          · rw [more, List.flatten_append, f2, show sideC b (fun h => !ansB is w h) (.num) = (if (!ansB is w (Ch.hd (.num))) then [.num] else []) from rfl, if_pos (by rw [z]; decide)]; simp
      | txt =>
        have hof := hoc_ok hc (m + 2 * d + 2) (Ws st ys ns os) (.txt) c3
        simp only [Ch.v] at hof ⊢
        array_mem_dec
        refine orF ?_
        array_mem_dec
        refine iteF ?_
        array_mem_dec
        refine hof.imp fun v s1 q => ?_
        obtain ⟨ev, es⟩ := q
        subst ev es
        array_mem_dec
        refine (fits_ok hf (m + 2 * d + 2) _ is w _ c2).imp fun v s1 q => ?_
        obtain ⟨ev, es⟩ := q
        subst ev es
        refine ⟨_, rfl, fun z => ?_, fun z => ?_⟩
        · array_mem_dec
          refine ⟨Ws.my, ?_⟩
          array_mem_dec
          refine ⟨_, Ws.py (k := [.txt]) (by omega), ?_⟩
          array_mem_dec
          refine ⟨⟨_, _, _, _, rfl⟩, _, _, os, rfl, by simp; omega, by omega, ?_, ?_⟩
          · rw [more, List.flatten_append, f1, show sideC b (ansB is w) (.txt) = (if ansB is w (Ch.hd (.txt)) then [.txt] else []) from rfl, if_pos z]; simp
          · rw [more, f2, show sideC b (fun h => !ansB is w h) (.txt) = (if (!ansB is w (Ch.hd (.txt))) then [.txt] else []) from rfl, if_neg (by rw [z]; decide)]; simp
        · array_mem_dec
          refine ⟨Ws.mn, ?_⟩
          array_mem_dec
          refine ⟨_, Ws.pn (k := [.txt]) (by omega), ?_⟩
          array_mem_dec
          refine ⟨⟨_, _, _, _, rfl⟩, _, _, os, rfl, by omega, by simp; omega, ?_, ?_⟩
          · rw [more, f1, show sideC b (ansB is w) (.txt) = (if ansB is w (Ch.hd (.txt)) then [.txt] else []) from rfl, if_neg (by rw [z]; decide)]; simp
          · rw [more, List.flatten_append, f2, show sideC b (fun h => !ansB is w h) (.txt) = (if (!ansB is w (Ch.hd (.txt))) then [.txt] else []) from rfl, if_pos (by rw [z]; decide)]; simp
      | shp fs =>
        have hof := hoc_ok hc (m + 2 * d + 2) (Ws st ys ns os) (.shp fs) c3
        simp only [Ch.v] at hof ⊢
        array_mem_dec
        refine orF ?_
        array_mem_dec
        refine iteF ?_
        array_mem_dec
        refine hof.imp fun v s1 q => ?_
        obtain ⟨ev, es⟩ := q
        subst ev es
        array_mem_dec
        refine (fits_ok hf (m + 2 * d + 2) _ is w _ c2).imp fun v s1 q => ?_
        obtain ⟨ev, es⟩ := q
        subst ev es
        refine ⟨_, rfl, fun z => ?_, fun z => ?_⟩
        · array_mem_dec
          refine ⟨Ws.my, ?_⟩
          array_mem_dec
          refine ⟨_, Ws.py (k := [.shp fs]) (by omega), ?_⟩
          array_mem_dec
          refine ⟨⟨_, _, _, _, rfl⟩, _, _, os, rfl, by simp; omega, by omega, ?_, ?_⟩
          · rw [more, List.flatten_append, f1, show sideC b (ansB is w) (.shp fs) = (if ansB is w (Ch.hd (.shp fs)) then [.shp fs] else []) from rfl, if_pos z]; simp
          · rw [more, f2, show sideC b (fun h => !ansB is w h) (.shp fs) = (if (!ansB is w (Ch.hd (.shp fs))) then [.shp fs] else []) from rfl, if_neg (by rw [z]; decide)]; simp
        · array_mem_dec
          refine ⟨Ws.mn, ?_⟩
          array_mem_dec
          refine ⟨_, Ws.pn (k := [.shp fs]) (by omega), ?_⟩
          array_mem_dec
          refine ⟨⟨_, _, _, _, rfl⟩, _, _, os, rfl, by omega, by simp; omega, ?_, ?_⟩
          · rw [more, f1, show sideC b (ansB is w) (.shp fs) = (if ansB is w (Ch.hd (.shp fs)) then [.shp fs] else []) from rfl, if_neg (by rw [z]; decide)]; simp
          · rw [more, List.flatten_append, f2, show sideC b (fun h => !ansB is w h) (.shp fs) = (if (!ansB is w (Ch.hd (.shp fs))) then [.shp fs] else []) from rfl, if_pos (by rw [z]; decide)]; simp
      | box bb ls => cases bb with
        | true =>
          have hof := hoc_ok hc (m + 2 * d + 2) (Ws st ys ns os) (.box true ls) c3
          simp only [Ch.v] at hof ⊢
          array_mem_dec
          refine orF ?_
          array_mem_dec
          refine iteF ?_
          array_mem_dec
          refine hof.imp fun v s1 q => ?_
          obtain ⟨ev, es⟩ := q
          subst ev es
          array_mem_dec
          refine (fits_ok hf (m + 2 * d + 2) _ is w _ c2).imp fun v s1 q => ?_
          obtain ⟨ev, es⟩ := q
          subst ev es
          refine ⟨_, rfl, fun z => ?_, fun z => ?_⟩
          · array_mem_dec
            refine ⟨Ws.my, ?_⟩
            array_mem_dec
            refine ⟨_, Ws.py (k := [.box true ls]) (by omega), ?_⟩
            array_mem_dec
            refine ⟨⟨_, _, _, _, rfl⟩, _, _, os, rfl, by simp; omega, by omega, ?_, ?_⟩
            · rw [more, List.flatten_append, f1, show sideC b (ansB is w) (.box true ls) = (if ansB is w (Ch.hd (.box true ls)) then [.box true ls] else []) from rfl, if_pos z]; simp
            · rw [more, f2, show sideC b (fun h => !ansB is w h) (.box true ls) = (if (!ansB is w (Ch.hd (.box true ls))) then [.box true ls] else []) from rfl, if_neg (by rw [z]; decide)]; simp
          · array_mem_dec
            refine ⟨Ws.mn, ?_⟩
            array_mem_dec
            refine ⟨_, Ws.pn (k := [.box true ls]) (by omega), ?_⟩
            array_mem_dec
            refine ⟨⟨_, _, _, _, rfl⟩, _, _, os, rfl, by omega, by simp; omega, ?_, ?_⟩
            · rw [more, f1, show sideC b (ansB is w) (.box true ls) = (if ansB is w (Ch.hd (.box true ls)) then [.box true ls] else []) from rfl, if_neg (by rw [z]; decide)]; simp
            · rw [more, List.flatten_append, f2, show sideC b (fun h => !ansB is w h) (.box true ls) = (if (!ansB is w (Ch.hd (.box true ls))) then [.box true ls] else []) from rfl, if_pos (by rw [z]; decide)]; simp
        | false =>
          have hof := hoc_ok hc (m + 2 * d + 2) (Ws st ys ns os) (.box false ls) c3
          simp only [Ch.v] at hof ⊢
          array_mem_dec
          refine orF ?_
          array_mem_dec
          refine iteF ?_
          array_mem_dec
          refine hof.imp fun v s1 q => ?_
          obtain ⟨ev, es⟩ := q
          subst ev es
          array_mem_dec
          refine (fits_ok hf (m + 2 * d + 2) _ is w _ c2).imp fun v s1 q => ?_
          obtain ⟨ev, es⟩ := q
          subst ev es
          refine ⟨_, rfl, fun z => ?_, fun z => ?_⟩
          · array_mem_dec
            refine ⟨Ws.my, ?_⟩
            array_mem_dec
            refine ⟨_, Ws.py (k := [.box false ls]) (by omega), ?_⟩
            array_mem_dec
            refine ⟨⟨_, _, _, _, rfl⟩, _, _, os, rfl, by simp; omega, by omega, ?_, ?_⟩
            · rw [more, List.flatten_append, f1, show sideC b (ansB is w) (.box false ls) = (if ansB is w (Ch.hd (.box false ls)) then [.box false ls] else []) from rfl, if_pos z]; simp
            · rw [more, f2, show sideC b (fun h => !ansB is w h) (.box false ls) = (if (!ansB is w (Ch.hd (.box false ls))) then [.box false ls] else []) from rfl, if_neg (by rw [z]; decide)]; simp
          · array_mem_dec
            refine ⟨Ws.mn, ?_⟩
            array_mem_dec
            refine ⟨_, Ws.pn (k := [.box false ls]) (by omega), ?_⟩
            array_mem_dec
            refine ⟨⟨_, _, _, _, rfl⟩, _, _, os, rfl, by omega, by simp; omega, ?_, ?_⟩
            · rw [more, f1, show sideC b (ansB is w) (.box false ls) = (if ansB is w (Ch.hd (.box false ls)) then [.box false ls] else []) from rfl, if_neg (by rw [z]; decide)]; simp
            · rw [more, List.flatten_append, f2, show sideC b (fun h => !ansB is w h) (.box false ls) = (if (!ansB is w (Ch.hd (.box false ls))) then [.box false ls] else []) from rfl, if_pos (by rw [z]; decide)]; simp
      | som bb =>
        have hof := hoc_ok hc (m + 2 * d + 2) (Ws st ys ns os) (.som bb) c3
        simp only [Ch.v] at hof ⊢
        array_mem_dec
        refine orF ?_
        array_mem_dec
        refine iteF ?_
        array_mem_dec
        refine hof.imp fun v s1 q => ?_
        obtain ⟨ev, es⟩ := q
        subst ev es
        array_mem_dec
        refine (fits_ok hf (m + 2 * d + 2) _ is w _ c2).imp fun v s1 q => ?_
        obtain ⟨ev, es⟩ := q
        subst ev es
        refine ⟨_, rfl, fun z => ?_, fun z => ?_⟩
        · array_mem_dec
          refine ⟨Ws.my, ?_⟩
          array_mem_dec
          refine ⟨_, Ws.py (k := [.som bb]) (by omega), ?_⟩
          array_mem_dec
          refine ⟨⟨_, _, _, _, rfl⟩, _, _, os, rfl, by simp; omega, by omega, ?_, ?_⟩
          · rw [more, List.flatten_append, f1, show sideC b (ansB is w) (.som bb) = (if ansB is w (Ch.hd (.som bb)) then [.som bb] else []) from rfl, if_pos z]; simp
          · rw [more, f2, show sideC b (fun h => !ansB is w h) (.som bb) = (if (!ansB is w (Ch.hd (.som bb))) then [.som bb] else []) from rfl, if_neg (by rw [z]; decide)]; simp
        · array_mem_dec
          refine ⟨Ws.mn, ?_⟩
          array_mem_dec
          refine ⟨_, Ws.pn (k := [.som bb]) (by omega), ?_⟩
          array_mem_dec
          refine ⟨⟨_, _, _, _, rfl⟩, _, _, os, rfl, by omega, by simp; omega, ?_, ?_⟩
          · rw [more, f1, show sideC b (ansB is w) (.som bb) = (if ansB is w (Ch.hd (.som bb)) then [.som bb] else []) from rfl, if_neg (by rw [z]; decide)]; simp
          · rw [more, List.flatten_append, f2, show sideC b (fun h => !ansB is w h) (.som bb) = (if (!ansB is w (Ch.hd (.som bb))) then [.som bb] else []) from rfl, if_pos (by rw [z]; decide)]; simp
      | wit ff =>
        have hof := hoc_ok hc (m + 2 * d + 2) (Ws st ys ns os) (.wit ff) c3
        simp only [Ch.v] at hof ⊢
        array_mem_dec
        refine orF ?_
        array_mem_dec
        refine iteF ?_
        array_mem_dec
        refine hof.imp fun v s1 q => ?_
        obtain ⟨ev, es⟩ := q
        subst ev es
        array_mem_dec
        refine (fits_ok hf (m + 2 * d + 2) _ is w _ c2).imp fun v s1 q => ?_
        obtain ⟨ev, es⟩ := q
        subst ev es
        refine ⟨_, rfl, fun z => ?_, fun z => ?_⟩
        · array_mem_dec
          refine ⟨Ws.my, ?_⟩
          array_mem_dec
          refine ⟨_, Ws.py (k := [.wit ff]) (by omega), ?_⟩
          array_mem_dec
          refine ⟨⟨_, _, _, _, rfl⟩, _, _, os, rfl, by simp; omega, by omega, ?_, ?_⟩
          · rw [more, List.flatten_append, f1, show sideC b (ansB is w) (.wit ff) = (if ansB is w (Ch.hd (.wit ff)) then [.wit ff] else []) from rfl, if_pos z]; simp
          · rw [more, f2, show sideC b (fun h => !ansB is w h) (.wit ff) = (if (!ansB is w (Ch.hd (.wit ff))) then [.wit ff] else []) from rfl, if_neg (by rw [z]; decide)]; simp
        · array_mem_dec
          refine ⟨Ws.mn, ?_⟩
          array_mem_dec
          refine ⟨_, Ws.pn (k := [.wit ff]) (by omega), ?_⟩
          array_mem_dec
          refine ⟨⟨_, _, _, _, rfl⟩, _, _, os, rfl, by omega, by simp; omega, ?_, ?_⟩
          · rw [more, f1, show sideC b (ansB is w) (.wit ff) = (if ansB is w (Ch.hd (.wit ff)) then [.wit ff] else []) from rfl, if_neg (by rw [z]; decide)]; simp
          · rw [more, List.flatten_append, f2, show sideC b (fun h => !ansB is w h) (.wit ff) = (if (!ansB is w (Ch.hd (.wit ff))) then [.wit ff] else []) from rfl, if_pos (by rw [z]; decide)]; simp
  · rintro η s ⟨⟨y1, y2, y3, y4, rfl⟩, ys, ns, os, rfl, l1, l2, f1, f2⟩
    have lv : (Ch.vs ks).length = ks.length := by rw [Ch.vs_map, List.length_map]
    have f1 : ys.flatten = (ks.map (sideC b (ansB is w))).flatten := by rw [f1, lv, List.take_length]
    have f2 : ns.flatten = (ks.map (sideC b fun h => !ansB is w h)).flatten := by rw [f2, lv, List.take_length]
    have mem : ∀ f c, c ∈ (ks.map (sideC b f)).flatten → TC d c ∧ c.sh.length ≤ 1000 := fun f c hc' => by
      obtain ⟨l, hl', hcl⟩ := List.mem_flatten.mp hc'
      obtain ⟨k, hk', rfl⟩ := List.mem_map.mp hl'
      exact (hks k hk').1 f c hcl
    array_mem_dec
    have J1 := joined_ok hk hs hj d (m + 1) (Ws st ys ns os) (.loc st.length) (some st.length) ys (fun o' => ?_) (fun o' => ?_) (by rw [f1]; exact Nat.le_trans (flat_len ks) hl) (fun c hc' => mem _ c (f1 ▸ hc'))
    rotate_left
    · have : (Ws st ys ns os ++ [o'])[st.length]? = some (.lst (ys.map kdT)) := by simp [Ws]
      simp only [itemsOf, this]
    · have : (Ws st ys ns os ++ [o'])[st.length]? = some (.lst (ys.map kdT)) := by simp [Ws]
      exact @decide_eq_true _ (Classical.propDecidable _) this
    rw [show m + 1 + 2 * d + 1 + 1 = m + 2 * d + 3 by omega] at J1
    refine J1.imp fun v s1 q => ?_
    obtain ⟨⟨Y, ev, sY, hY⟩, o1, es⟩ := q
    subst ev es
    array_mem_dec
    have J2 := joined_ok hk hs hj d (m + 1) (Ws st ys ns os ++ [o1]) (.loc (st.length + 1)) (some (st.length + 1)) ns (fun o' => ?_) (fun o' => ?_) (by rw [f2]; exact Nat.le_trans (flat_len ks) hl) (fun c hc' => mem _ c (f2 ▸ hc'))
    rotate_left
    · have : (Ws st ys ns os ++ [o1] ++ [o'])[st.length + 1]? = some (.lst (ns.map kdT)) := by simp [Ws]
      simp only [itemsOf, this]
    · have : (Ws st ys ns os ++ [o1] ++ [o'])[st.length + 1]? = some (.lst (ns.map kdT)) := by simp [Ws]
      exact @decide_eq_true _ (Classical.propDecidable _) this
    rw [show m + 1 + 2 * d + 1 + 1 = m + 2 * d + 3 by omega] at J2
    refine J2.imp fun v s1 q => ?_
    obtain ⟨⟨N, ev, sN, hN⟩, o2, es⟩ := q
    subst ev es
    array_mem_dec
    refine ⟨⟨Y, N, rfl, (fun c => by rw [hY, f1]), (fun c => by rw [hN, f2]), sY, sN⟩, ⟨_, by rw [Ws, List.append_assoc, List.append_assoc]⟩⟩
include hk hs hj hc hh hf hx hn in
theorem narrowed_ok (d m : Nat) (st : Store) (b : Bd) (hb : BNOk b) (is : Bool) (w : Txt) (ks : List Ch) (hl : ks.length ≤ 60) (hks : ∀ c ∈ ks, NOk b d c) :
    Ret (callN p (m + 2 * d + 3 + 1) 7 [kdT ks, .dct (bks b) (bxs b), askV is w] st) fun v s => (∃ Y N, v = .tup [kdT Y, kdT N] ∧ (∀ c, c ∈ Y ↔ c ∈ (ks.map (sideC b (ansB is w))).flatten) ∧ ∀ c, c ∈ N ↔ c ∈ (ks.map (sideC b fun h => !ansB is w h)).flatten) ∧ Gr st s :=
  (narrowed_okP hk hs hj hc hh hf hx hn d m st b hb is w ks hl hks).imp fun v s ⟨⟨Y, N, e, h1, h2, _⟩, g⟩ => ⟨⟨Y, N, e, h1, h2⟩, g⟩
end
end Mi
namespace Mi
/-! what a letter leaves -/
theorem lc_filt {α : Type} {η : Env} {st : Store} {tg : Tg} {T : Env → Store → Res Bool} {E : Env → Store → Res Val} (g f : α → Val) (t : α → Bool) {R : List Val → Store → Prop} : ∀ (l : List α) (acc : List Val),
    (∀ a ∈ l, ∃ η1, asgTg tg (g a) η = some η1 ∧ Ret (T η1 st) (fun b s => b = t a ∧ s = st) ∧ (t a = true → Ret (E η1 st) fun v s => v = f a ∧ s = st)) → acc.length + l.length ≤ PySem.sizeLine →
    R (acc ++ (l.filter t).map f) st → Ret (lcLoop (fun _ => true) tg η T E (l.map g) acc st) R
  | [], acc, _, _, r => ret_ok (by simpa using r)
  | a :: l, acc, h, hl, r => by
    obtain ⟨η1, e, hT, hE⟩ := h a (by simp)
    simp only [List.map_cons, lcLoop, if_true, e]
    refine ret_bindN (hT.imp fun b s ⟨hb, hs⟩ => ?_)
    rw [hs]
    cases q : t a with
    | false =>
      rw [q] at hb
      subst hb
      exact lc_filt g f t l acc (fun y hy => h y (by simp [hy])) (by simp at hl; omega) (by simpa [q] using r)
    | true =>
      rw [q] at hb
      subst hb
      refine ret_bindN ((hE q).imp fun v s ⟨hv, hs⟩ => ?_)
      rw [hs, hv]
      rw [if_pos (by simp at hl; omega)]
      exact lc_filt g f t l _ (fun y hy => h y (by simp [hy])) (by simp at hl ⊢; omega) (by simpa [q] using r)
def bndK (b : Bd) (x : Txt) : List Ch := match b.find? fun q => q.1 == x with
  | some q => q.2
  | none => []
theorem bndK_of {x : Txt} {ks : List Ch} : ∀ {b : Bd}, (bks b).Nodup → (x, ks) ∈ b → bndK b x = ks
  | [], _, h => by cases h
  | q :: b, nd, h => by
    simp only [bks, List.map_cons] at nd
    unfold bndK
    rw [List.find?_cons]
    rcases List.mem_cons.mp h with rfl | h
    · simp
    · have ne : (q.1 == x) = false := by
        refine beq_false_of_ne fun e => ?_
        subst e
        exact (List.nodup_cons.mp nd).1 (List.mem_map.mpr ⟨_, h, rfl⟩)
      rw [ne]
      have := bndK_of (b := b) (List.nodup_cons.mp nd).2 h
      unfold bndK at this
      exact this
def headsC (b : Bd) : Ch → List Txt
  | .ltr x => hsx b x
  | .cut _ hs => hs
  | _ => []
def ltrOf : Ch → Option Txt
  | .ltr x => some x
  | .cut x _ => some x
  | _ => none
def leftP (b : Bd) (x : Txt) (H : List Txt) : List Ch := (bndK b x).filter fun k => decide (k.hd ∈ H)
def covP (b : Bd) (x : Txt) (other : List Ch) : List Txt := (other.filter fun o => ltrOf o == some x).flatMap (headsC b)
def uncP (b : Bd) (x : Txt) (H : List Txt) (other : List Ch) : List Ch := (leftP b x H).filter fun k => !decide (k.hd ∈ covP b x other)
/-- what of a choice these functions want -/
structure LOk (b : Bd) (c : Ch) : Prop where
  l : ∀ x, ltrOf c = some x → ∃ ks, (x, ks) ∈ b
  h : ∀ x hs, c = .cut x hs → hs.length ≤ 1000
  s : ∀ fs, c = .shp fs → fs.length ≤ 1000 ∧ (joinT [32] (fs.map (·.1))).length ≤ 10000
end Mi
namespace Mi
/-! kinds joined, told outright -/
def putE (cs es : List Ch) : List Ch := cs.foldl (fun es c => esPut c es) es
theorem putE_ok {d : Nat} : ∀ {cs es : List Ch}, (∀ c ∈ cs, TC d c) → EsOk d es → EsOk d (putE cs es) ∧ (∀ x, x ∈ putE cs es ↔ x ∈ cs ∨ x ∈ es)
  | [], es, _, h => ⟨h, fun x => by simp [putE]⟩
  | c :: cs, es, hc, h => by
    obtain ⟨k1, k2, _⟩ := esPut_ok (hc c (by simp)) h
    obtain ⟨i1, i2⟩ := putE_ok (cs := cs) (es := esPut c es) (fun x hx => hc x (by simp [hx])) k1
    refine ⟨i1, fun x => ?_⟩
    show x ∈ putE cs (esPut c es) ↔ _
    rw [i2, k2, List.mem_cons]
    constructor
    · rintro (a | a | a)
      · exact .inl (.inr a)
      · exact .inl (.inl a)
      · exact .inr a
    · rintro ((a | a) | a)
      · exact .inr (.inl a)
      · exact .inl a
      · exact .inr (.inr a)
def jn (cs : List Ch) : List Ch := esSort (putE cs [])
theorem jn_ok {d : Nat} {cs : List Ch} (h : ∀ c ∈ cs, TC d c) : (jn cs).Pairwise LtSh ∧ ∀ x, x ∈ jn cs ↔ x ∈ cs := by
  obtain ⟨k1, k2⟩ := putE_ok (es := []) h ⟨by simp, by simp⟩
  exact ⟨esSort_sorted k1, fun x => by rw [jn, esSort_mem k1, k2]; simp⟩
theorem ltsh_nd {xs : List Ch} (h : xs.Pairwise LtSh) : xs.Nodup := h.imp fun {a b} hab e => by
  subst e
  have hab : ltT a.sh a.sh = true := hab
  rw [ltT_irrefl] at hab
  cases hab
theorem sub_perm : ∀ {xs ys : List Ch}, xs.Nodup → ys.Nodup → (∀ x, x ∈ xs ↔ x ∈ ys) → xs.Perm ys := by
  intro xs
  induction xs with
  | nil =>
    intro ys _ _ h
    cases ys with
    | nil => exact .refl _
    | cons y ys => exact absurd ((h y).mpr (by simp)) List.not_mem_nil
  | cons x xs ih =>
    intro ys n1 n2 h
    obtain ⟨l, r, e⟩ := List.append_of_mem ((h x).mp (by simp))
    subst e
    obtain ⟨a1, a2⟩ := List.nodup_cons.mp n1
    have p : (l ++ x :: r).Perm (x :: (l ++ r)) := List.perm_middle
    have n3 := p.nodup_iff.mp n2
    obtain ⟨b1, b2⟩ := List.nodup_cons.mp n3
    refine ((ih a2 b2 fun z => ?_).cons x).trans p.symm
    have hz := h z
    rw [p.mem_iff, List.mem_cons, List.mem_cons] at hz
    constructor
    · intro m
      rcases hz.mp (.inr m) with e | e
      · subst e; exact absurd m a1
      · exact e
    · intro m
      rcases hz.mpr (.inr m) with e | e
      · subst e; exact absurd m b1
      · exact e
theorem ltsh_uniq {xs ys : List Ch} (h1 : xs.Pairwise LtSh) (h2 : ys.Pairwise LtSh) (h : ∀ x, x ∈ xs ↔ x ∈ ys) : xs = ys :=
  List.Perm.eq_of_pairwise (fun x y _ _ a b => by
    have := ltT_asymm a
    have b : ltT y.sh x.sh = true := b
    rw [this] at b
    cases b) h1 h2 (sub_perm (ltsh_nd h1) (ltsh_nd h2) h)
theorem esPut_len (c : Ch) (es : List Ch) : (esPut c es).length ≤ es.length + 1 := by
  unfold esPut; split <;> simp
theorem putE_len : ∀ (cs es : List Ch), (putE cs es).length ≤ es.length + cs.length
  | [], es => by simp [putE]
  | c :: cs, es => by
    have h1 := putE_len cs (esPut c es)
    have h2 := esPut_len c es
    show (putE cs (esPut c es)).length ≤ _
    simp only [List.length_cons]; omega
theorem jn_len (cs : List Ch) : (jn cs).length ≤ cs.length := by
  have := putE_len cs []
  unfold jn esSort
  rw [List.length_map, sortT_len, List.length_map]
  simpa using this
section
variable {p : Prg} (hk : p.fns[0]? = some d_shown_kind) (hc : p.fns[1]? = some d_shown_choice) (hj : p.fns[2]? = some d_joined)
include hk hc hj in
theorem joined_jn (d m : Nat) (st : Store) (ls : List (List Ch)) (hn : ls.flatten.length ≤ 60) (hin : ∀ c ∈ ls.flatten, TC d c ∧ c.sh.length ≤ 1000) :
    Ret (callN p (m + 2 * d + 1 + 1) 2 [.lst (ls.map kdT)] st) fun v s => v = kdT (jn ls.flatten) ∧ Gr st s := by
  refine (joined_ok hk hc hj d m st (.lst (ls.map kdT)) none ls (fun _ => rfl) (fun _ => rfl) hn hin).imp fun v s q => ?_
  obtain ⟨⟨R, e, h1, h2⟩, o', es⟩ := q
  obtain ⟨j1, j2⟩ := jn_ok (d := d) (cs := ls.flatten) fun c hc' => (hin c hc').1
  have : R = jn ls.flatten := ltsh_uniq h1 j1 fun x => by rw [h2, j2]
  subst this
  exact ⟨e, es ▸ Gr.one⟩
include hk hc hj in
theorem joined_jnL (d m : Nat) (st : Store) (kv : Val) (o : Option Nat) (ls : List (List Ch)) (hit : ∀ o', itemsOf (st ++ [o']) kv = some (ls.map kdT, o)) (hck : ∀ o', ckOf o (ls.map kdT) (st ++ [o']) = true)
    (hn : ls.flatten.length ≤ 60) (hin : ∀ c ∈ ls.flatten, TC d c ∧ c.sh.length ≤ 1000000) :
    Ret (callN p (m + 2 * d + 1 + 1) 2 [kv] st) fun v s => v = kdT (jn ls.flatten) ∧ Gr st s := by
  refine (joined_okL hk hc hj d m st kv o ls hit hck hn hin).imp fun v s q => ?_
  obtain ⟨⟨R, e, h1, h2⟩, o', es⟩ := q
  obtain ⟨j1, j2⟩ := jn_ok (d := d) (cs := ls.flatten) fun c hc' => (hin c hc').1
  have : R = jn ls.flatten := ltsh_uniq h1 j1 fun x => by rw [h2, j2]
  subst this
  exact ⟨e, es ▸ Gr.one⟩
end
end Mi
namespace Mi
def Bn : Nat → Nat
  | 0 => 8
  | d + 1 => 6 * Bn d + 50
theorem Bn_ge (d : Nat) : 8 ≤ Bn d := by cases d <;> simp [Bn]
theorem shk_len {B : Nat} {ks : List Ch} {n : Nat} (hn : ks.length ≤ n) (h : ∀ k ∈ ks, k.sh.length ≤ B) : (Ch.shk ks).length ≤ n * (B + 3) := by
  have := joinT_le (sep := [32, 124, 32]) (B := B) (ts := Ch.shs ks) fun t ht => by
    rw [Ch.shs_map] at ht
    obtain ⟨k, hk, rfl⟩ := List.mem_map.mp ht
    exact h k hk
  rw [Ch.shs_map, List.length_map] at this
  refine Nat.le_trans (by rw [Ch.shk, Ch.shs_map]; exact this) (Nat.mul_le_mul_right _ hn)
theorem COk.sh_len {L N : Txt → Prop} (hL : ∀ x, L x → x.length ≤ 8) (hN : ∀ x, N x → x.length ≤ 8) : ∀ {d : Nat} {c : Ch}, COk L N d c → c.sh.length ≤ Bn d := by
  intro d
  induction d with
  | zero =>
    intro c h
    cases c with
    | num => exact Nat.le_of_ble_eq_true rfl
    | txt => exact Nat.le_of_ble_eq_true rfl
    | ltr x => exact hL x h
    | _ => exact h.elim
  | succ d ih =>
    intro c h
    have b8 := Bn_ge d
    cases c with
    | num => simp only [Ch.sh, Bn, List.length_cons, List.length_nil]; omega
    | txt => simp only [Ch.sh, Bn, List.length_cons, List.length_nil]; omega
    | ltr x => have := hL x h; simp only [Ch.sh, Bn]; omega
    | box b ks =>
      have := shk_len h.1.2 fun k hk => ih (h.2 k hk)
      have l : (bw b).length ≤ 4 := by cases b <;> exact Nat.le_of_ble_eq_true rfl
      simp only [Ch.sh, Bn, List.length_append, List.length_cons, List.length_nil]
      have e : (joinT [32, 124, 32] (Ch.shs ks)).length ≤ 3 * (Bn d + 3) := this
      omega
    | shp fs =>
      obtain ⟨hl, _, hn, hk⟩ := h
      have := joinT_le (sep := [44, 32]) (B := 10 + 3 * (Bn d + 3)) (ts := Ch.shf fs) fun t ht => by
        rw [Ch.shf_map] at ht
        obtain ⟨⟨f, ks⟩, hf, rfl⟩ := List.mem_map.mp ht
        have h1 := hN f (hn f (List.mem_map.mpr ⟨_, hf, rfl⟩))
        have h2 := shk_len (hk _ hf).1.2 fun k hk' => ih ((hk _ hf).2 k hk')
        have h3 : (joinT [32, 124, 32] (Ch.shs ks)).length ≤ 3 * (Bn d + 3) := h2
        simp only [Ch.shd, List.length_append, List.length_cons, List.length_nil]
        omega
      have l : (Ch.shf fs).length ≤ 2 := by rw [Ch.shf_map, List.length_map]; exact hl.2
      have l2 := Nat.mul_le_mul_right (10 + 3 * (Bn d + 3) + [44, 32].length) l
      simp only [Ch.sh, Bn, List.length_append, List.length_cons, List.length_nil] at this l2 ⊢
      omega
    | _ => exact h.elim
end Mi
namespace Mi
/-! drawn kinds can be told and narrowed -/
theorem up_upw {t : Txt} (h : Word t) : Upw (up t) := by
  refine ⟨fun e => h.ne (by simpa [up] using e), fun x hx => ?_⟩
  obtain ⟨y, hy, rfl⟩ := List.mem_map.mp hx
  have := h.low y hy
  show 65 ≤ y - 32 ∧ y - 32 ≤ 90
  omega
theorem COk.tc {L N : Txt → Prop} (hL : ∀ x, L x → Upw x) (hN : ∀ f, N f → Word f) : ∀ {d : Nat} {c : Ch}, COk L N d c → TC d c := by
  intro d
  induction d with
  | zero => intro c h; cases c <;> first | exact h.elim | exact hL _ h | trivial
  | succ d ih =>
    intro c h
    cases c with
    | box b ks => exact ⟨fun e => by have := h.1.1; subst e; simp at this, fun k hk => ih (h.2 k hk)⟩
    | shp fs =>
      obtain ⟨a, _, n, q⟩ := h
      exact ⟨fun e => by subst e; simp at a, fun f hf => ⟨hN _ (n f.1 (List.mem_map.mpr ⟨f, hf, rfl⟩)), fun e => by have := (q f hf).1.1; rw [e] at this; simp at this, fun k hk => ih ((q f hf).2 k hk)⟩⟩
    | num => trivial
    | txt => trivial
    | ltr x => exact hL _ h
    | _ => exact h.elim
theorem joinT_chars {P : Nat → Prop} {sep : Txt} (hs : ∀ x ∈ sep, P x) : ∀ {ts : List Txt}, (∀ t ∈ ts, ∀ x ∈ t, P x) → ∀ x ∈ joinT sep ts, P x
  | [], _, x, h => by simp [joinT] at h
  | [t], h, x, hx => h t (by simp) x hx
  | t :: u :: r, h, x, hx => by
    simp only [joinT, List.mem_append] at hx
    rcases hx with (hx | hx) | hx
    · exact h t (by simp) x hx
    · exact hs x hx
    · exact joinT_chars hs (ts := u :: r) (fun t ht => h t (by simp at ht ⊢; exact .inr ht)) x hx
theorem COk.hd_chars {L N : Txt → Prop} (hN : ∀ f, N f → Word f) : ∀ {d : Nat} {c : Ch}, COk L N d c → ∀ x ∈ c.hd, x ≠ 44 ∧ x ≠ 41
  | 0, c, h => by cases c <;> first | exact h.elim | (intro x hx; simp only [Ch.hd, kNum, kText, kLetter, List.mem_cons, List.not_mem_nil, or_false] at hx; omega)
  | d + 1, c, h => by
    cases c with
    | shp fs =>
      obtain ⟨_, _, n, _⟩ := h
      intro x hx
      simp only [Ch.hd, List.mem_append] at hx
      rcases hx with hx | hx
      · simp only [List.mem_cons, List.not_mem_nil, or_false] at hx; omega
      · refine joinT_chars (P := fun x => x ≠ 44 ∧ x ≠ 41) (by simp) (fun t ht x hx => ?_) x hx
        have := (hN t (n t ht)).low x hx
        omega
    | box b ks => cases b <;> (intro x hx; simp only [Ch.hd, bw, kRow, kBook, List.mem_cons, List.not_mem_nil, or_false] at hx; omega)
    | num => intro x hx; simp only [Ch.hd, kNum, List.mem_cons, List.not_mem_nil, or_false] at hx; omega
    | txt => intro x hx; simp only [Ch.hd, kText, List.mem_cons, List.not_mem_nil, or_false] at hx; omega
    | ltr x => intro x hx; simp only [Ch.hd, kLetter, List.mem_cons, List.not_mem_nil, or_false] at hx; omega
    | _ => exact h.elim
/-- heads of a bound -/
structure HdsOk (H : List Txt) : Prop where
  len : H.length ≤ 3
  ch : ∀ h ∈ H, h.length ≤ 23 ∧ ∀ x ∈ h, x ≠ 44 ∧ x ≠ 41
theorem heads_hds {c : Cst} (hc : Cok c) {ks : List Ch} (h : KOk (· ∈ ([] : List Txt)) (Nw c) 1 ks) : HdsOk (Ch.heads ks) := by
  refine ⟨?_, fun t ht => ?_⟩
  · have h4 := sortU_len (ks.map Ch.hd)
    simp only [List.length_map] at h4
    exact Nat.le_trans h4 h.1.2
  · obtain ⟨k, hk, rfl⟩ := List.mem_map.mp ((sortU_mem _ _).mp ht)
    exact ⟨((h.2 k hk).hd_len (Nw.word hc)).1, (h.2 k hk).hd_chars (Nw.word hc)⟩
theorem upl {t : Txt} : (up t).length = t.length := by simp [up]
theorem letter_ok {c : Cst} (hc : Cok c) {n : Nat} {b : Bd} (hb : BOk c n b) {x : Txt} (hx : x ∈ bks b) : Upw x ∧ x.length ≤ 8 ∧ ∃ ks, (x, ks) ∈ b ∧ KOk (· ∈ ([] : List Txt)) (Nw c) 1 ks := by
  obtain ⟨⟨x', ks⟩, hq, rfl⟩ := List.mem_map.mp hx
  obtain ⟨⟨k, _, ex⟩, hks⟩ := hb.all _ hq
  have ex : x' = up (wd c k) := ex
  refine ⟨ex ▸ up_upw (wd_word hc k), ?_, ks, hq, hks⟩
  show x'.length ≤ 8
  rw [ex, upl]; exact (wd_word hc k).len
end Mi
namespace Mi
theorem bnok {c : Cst} (hc : Cok c) {n : Nat} {b : Bd} (hb : BOk c n b) : BNOk b := by
  refine ⟨hb.nd, fun q hq => ?_⟩
  have hks := (hb.all q hq).2
  refine ⟨by have := hks.1.2; omega, fun k hk => ?_, fun k hk fs e => ?_⟩
  · have := ((hks.2 k hk).hd_len (Nw.word hc)).1; omega
  · have := ((hks.2 k hk).hd_len (Nw.word hc)).2 fs e; omega
end Mi
namespace Mi
theorem cutTo_tc {d : Nat} {x : Txt} {g H : List Txt} (hx : Upw x) (hl : x.length ≤ 8) (hg : HdsOk g) : ∀ c ∈ cutTo x g H, TC d c ∧ c.sh.length ≤ 1000 := by
  intro c hc
  unfold cutTo at hc
  split at hc
  · cases hc
  · rename_i ne
    split at hc
    · simp at hc; subst hc
      exact ⟨by cases d <;> exact hx, by simp only [Ch.sh]; omega⟩
    · simp at hc; subst hc
      refine ⟨by cases d <;> exact ⟨hx, ne, fun h hh => (hg.ch h hh).2⟩, ?_⟩
      have := joinT_le (sep := [44, 32]) (B := 23) (ts := g) fun t ht => (hg.ch t ht).1
      have l2 := Nat.mul_le_mul_right (23 + [44, 32].length) hg.len
      simp only [Ch.sh, List.length_append, List.length_cons, List.length_nil] at this l2 ⊢
      omega
theorem HdsOk.filter {H : List Txt} (h : HdsOk H) (f : Txt → Bool) : HdsOk (H.filter f) :=
  ⟨Nat.le_trans (List.length_filter_le _ _) h.len, fun t ht => h.ch t (List.mem_filter.mp ht).1⟩
theorem nok_ofD {c : Cst} (hc : Cok c) {n : Nat} {b : Bd} (hb : BOk c n b) {d : Nat} (hd : d ≤ 1) {ks : List Ch} (h : AnyOk c b (d + 1) ks) : ∀ k ∈ ks, NOk b (d + 1) k ∧ (∀ bb, k ≠ .som bb) ∧ (∀ f, k ≠ .wit f) ∧ ∀ x, (k = .ltr x ∨ ∃ hs, k = .cut x hs) → x ∈ bks b := by
  obtain ⟨ks0, cs, rfl, h1, h2⟩ := h
  intro k hk
  have lt : ∀ {x : Txt}, x ∈ bks b → NOk b (d + 1) (.ltr x) ∧ (∀ bb, Ch.ltr x ≠ .som bb) ∧ (∀ f, Ch.ltr x ≠ .wit f) ∧ ∀ y, (Ch.ltr x = .ltr y ∨ ∃ hs, Ch.ltr x = .cut y hs) → y ∈ bks b := fun {x} hx => by
    obtain ⟨u, l, ls, hm, hls⟩ := letter_ok hc hb hx
    refine ⟨⟨fun f c' hc' => ?_, Nat.le_of_ble_eq_true rfl, (fun _ e => by cases e), fun y e => ?_, (fun _ _ e => by cases e)⟩, (fun _ e => by cases e), (fun _ e => by cases e), fun y e => ?_⟩
    · simp only [sideC, hsx_of hb.nd hm] at hc'
      exact cutTo_tc u l ((heads_hds hc hls).filter f) c' hc'
    · cases e; exact ⟨ls, hm⟩
    · rcases e with e | ⟨hs, e⟩
      · cases e; exact hx
      · cases e
  have base : k ∈ ks0 → _ := fun hk => h1.2 k hk
  rcases List.mem_append.mp hk with hk | hk
  · have hk := h1.2 k hk
    cases k with
    | ltr x => exact lt hk
    | cut x hs => exact hk.elim
    | som bb => exact hk.elim
    | wit f => exact hk.elim
    | num =>
      refine ⟨⟨fun f c' hc' => ?_, Nat.le_of_ble_eq_true rfl, (fun _ e => by cases e), (fun _ e => by cases e), (fun _ _ e => by cases e)⟩, (fun _ e => by cases e), (fun _ e => by cases e), fun x e => by rcases e with e | ⟨_, e⟩ <;> cases e⟩
      simp only [sideC] at hc'
      split at hc'
      · simp at hc'; subst hc'; exact ⟨trivial, Nat.le_of_ble_eq_true rfl⟩
      · cases hc'
    | txt =>
      refine ⟨⟨fun f c' hc' => ?_, Nat.le_of_ble_eq_true rfl, (fun _ e => by cases e), (fun _ e => by cases e), (fun _ _ e => by cases e)⟩, (fun _ e => by cases e), (fun _ e => by cases e), fun x e => by rcases e with e | ⟨_, e⟩ <;> cases e⟩
      simp only [sideC] at hc'
      split at hc'
      · simp at hc'; subst hc'; exact ⟨trivial, Nat.le_of_ble_eq_true rfl⟩
      · cases hc'
    | box bb ls =>
      have tc := hk.tc (fun x hx => (letter_ok hc hb hx).1) (Nw.word hc)
      have sl := hk.sh_len (fun x hx => (letter_ok hc hb hx).2.1) (fun f hf => (Nw.word hc f hf).len)
      have hl := (hk.hd_len (Nw.word hc)).1
      refine ⟨⟨fun f c' hc' => ?_, by omega, (fun _ e => by cases e), (fun _ e => by cases e), (fun _ _ e => by cases e)⟩, (fun _ e => by cases e), (fun _ e => by cases e), fun x e => by rcases e with e | ⟨_, e⟩ <;> cases e⟩
      simp only [sideC] at hc'
      split at hc'
      · simp at hc'; subst hc'; exact ⟨tc, Nat.le_trans sl (by obtain rfl | rfl : d = 0 ∨ d = 1 := (by omega) <;> decide)⟩
      · cases hc'
    | shp fs =>
      have tc := hk.tc (fun x hx => (letter_ok hc hb hx).1) (Nw.word hc)
      have sl := hk.sh_len (fun x hx => (letter_ok hc hb hx).2.1) (fun f hf => (Nw.word hc f hf).len)
      obtain ⟨hl, h2⟩ := hk.hd_len (Nw.word hc)
      refine ⟨⟨fun f c' hc' => ?_, by omega, (fun gs e => by have := h2 gs e; omega), (fun _ e => by cases e), (fun _ _ e => by cases e)⟩, (fun _ e => by cases e), (fun _ e => by cases e), fun x e => by rcases e with e | ⟨_, e⟩ <;> cases e⟩
      simp only [sideC] at hc'
      split at hc'
      · simp at hc'; subst hc'; exact ⟨tc, Nat.le_trans sl (by obtain rfl | rfl : d = 0 ∨ d = 1 := (by omega) <;> decide)⟩
      · cases hc'
  · rcases h2 with rfl | ⟨ch, rfl, x, ls, hx, h2⟩
    · cases hk
    · simp at hk; subst hk
      have m : x ∈ bks b := List.mem_map.mpr ⟨_, hx, rfl⟩
      rcases h2 with rfl | ⟨i, j, _, _, _, rfl⟩
      · exact lt m
      · obtain ⟨u, l, _⟩ := letter_ok hc hb m
        have hls : KOk (· ∈ ([] : List Txt)) (Nw c) 1 ls := (hb.all _ hx).2
        have hds := heads_hds hc hls
        have sub : HdsOk (((Ch.heads ls).drop i).take j) := ⟨by
          have := hds.len
          simp only [List.length_take, List.length_drop]; omega, fun t ht => hds.ch t (List.mem_of_mem_drop (List.mem_of_mem_take ht))⟩
        refine ⟨⟨fun f c' hc' => ?_, Nat.le_of_ble_eq_true rfl, (fun _ e => by cases e), (fun _ e => by cases e), fun y hs e => ?_⟩, (fun _ e => by cases e), (fun _ e => by cases e), fun y e => ?_⟩
        · simp only [sideC] at hc'
          exact cutTo_tc u l (sub.filter f) c' hc'
        · cases e
          exact ⟨⟨ls, hx⟩, by have := sub.len; omega, fun h hh => by have := (sub.ch h hh).1; omega⟩
        · rcases e with e | ⟨hs, e⟩
          · cases e
          · cases e; exact m
theorem nok_of {c : Cst} (hc : Cok c) {n : Nat} {b : Bd} (hb : BOk c n b) {ks : List Ch} (h : AnyOk c b 1 ks) : ∀ k ∈ ks, NOk b 1 k ∧ (∀ bb, k ≠ .som bb) ∧ (∀ f, k ≠ .wit f) ∧ ∀ x, (k = .ltr x ∨ ∃ hs, k = .cut x hs) → x ∈ bks b :=
  nok_ofD hc hb (by decide) h
end Mi
namespace Mi
local macro_rules | `(tactic| array_mem_dec) => `(tactic| repeat (first | (with_reducible refine t_seq ?_) | (with_reducible refine t_skip ?_) | (with_reducible refine t_asg ?_) | (with_reducible refine t_ret ?_) | (with_reducible refine t_expr ?_) | (with_reducible refine t_put ?_) | (with_reducible refine t_ite ?_) | (with_reducible refine t_for ?_) | (with_reducible refine t_asgT ?_) | ((with_reducible apply v_var); rfl) | ((with_reducible apply b_var); rfl) | ((with_reducible apply i_var); rfl) | (with_reducible refine v_lit ?_) | (with_reducible refine v_ix ?_) | (with_reducible refine v_bin ?_) | (with_reducible refine v_cmp ?_) | (with_reducible refine v_call ?_) | (with_reducible refine v_tup ?_) | (with_reducible refine v_lst ?_) | (with_reducible refine v_new ?_) | (with_reducible refine v_fn ?_) | (with_reducible refine v_isi ?_) | (with_reducible refine v_mt ?_) | (with_reducible refine v_and ?_) | (with_reducible refine v_or ?_) | (with_reducible refine v_not ?_) | (with_reducible refine v_ite ?_) | (with_reducible refine v_neg ?_) | (with_reducible refine v_chain ?_) | (with_reducible refine v_isN ?_) | (with_reducible refine v_isB ?_) | (with_reducible refine v_lc ?_) | (with_reducible refine a_cons ?_) | (with_reducible refine a_nil ?_) | (with_reducible refine b_cmp ?_) | (with_reducible refine b_and ?_) | (with_reducible refine b_or ?_) | (with_reducible refine b_not ?_) | (with_reducible refine b_call ?_) | (with_reducible refine b_isi ?_) | (with_reducible refine b_lit ?_) | (with_reducible refine b_isN ?_) | (with_reducible refine b_isB ?_) | (with_reducible refine b_chain ?_) | (with_reducible refine b_mt ?_) | (with_reducible refine b_fn ?_) | (with_reducible refine i_rng ?_) | (with_reducible refine i_ix ?_) | (with_reducible refine i_fn ?_) | (with_reducible refine i_call ?_) | (with_reducible refine i_bin ?_) | (with_reducible refine i_lst ?_) | (with_reducible refine i_sortK ?_) | (with_reducible refine i_tup ?_) | (with_reducible refine i_lc ?_) | (with_reducible refine v_dcpy ?_) | (with_reducible refine v_lnew ?_) | refine ⟨Nat.le_of_ble_eq_true rfl, ?_⟩ | refine ⟨_, rfl, ?_⟩))
section
variable {p : Prg}
theorem ask_ok {c : Cst} (hc : Cok c) (hp : p.fns[9]? = some d_law_taken) (hw : p.fns[10]? = some d_law_word) (hd : p.fns[24]? = some d_law_ask) (m : Nat) (st : Store) (h : Dw c st) :
    Ret (callN p (m + 2) 24 [.loc 0] st) fun v s => (∃ is w, v = askV is w) ∧ Dw c s ∧ Fr st s := by
  refine call_of hd rfl ?_
  simp only [d_law_ask, List.map_cons, List.map_nil, List.length_cons, List.length_nil, List.cons_append, List.nil_append, Nat.reduceAdd, Nat.reduceSub, Nat.zero_add, Nat.add_zero, Nat.sub_self, Nat.sub_zero, List.replicate]
  array_mem_dec
  refine (taken_ok (n := m) (m := 3) hp h (by decide) (by decide)).imp fun v s1 ⟨⟨i1, e1, l1, m1⟩, w1, f1⟩ => ?_
  subst e1
  array_mem_dec
  refine ⟨fun _ => ?_, fun _ => ?_⟩
  · array_mem_dec
    refine (taken_ok (n := m) (m := 3) hp w1 (by decide) (by decide)).imp fun v s2 ⟨⟨i2, e2, l2, m2⟩, w2, f2⟩ => ?_
    subst e2
    array_mem_dec
    obtain ⟨k, rfl⟩ := Int.eq_ofNat_of_zero_le l2
    refine (word_ok (n := m) hw w2 hc k).imp fun v s3 ⟨e, e'⟩ => ?_
    subst e e'
    array_mem_dec
    exact ⟨⟨false, wd c k, rfl⟩, w2, f1.trans f2⟩
  · array_mem_dec
    refine (taken_ok (n := m) (m := 5) hp w1 (by decide) (by decide)).imp fun v s2 ⟨⟨i2, e2, l2, m2⟩, w2, f2⟩ => ?_
    subst e2
    obtain ⟨k, rfl⟩ := Int.eq_ofNat_of_zero_le l2
    obtain ⟨t, ht, e⟩ := at_nat (xs := ([[110, 117, 109, 98, 101, 114], [116, 101, 120, 116], [114, 111, 119], [98, 111, 111, 107], [115, 104, 97, 112, 101]] : List Txt).map .str) l2 m2
    obtain ⟨t, _, rfl⟩ := List.mem_map.mp ht
    refine ⟨_, e, ?_⟩
    array_mem_dec
    exact ⟨⟨true, t, rfl⟩, w2, f1.trans f2⟩
end
end Mi
namespace Mi
section
variable {p : Prg} (hc : p.fns[3]? = some d_head_of_choice) (hh : p.fns[4]? = some d_heads_of)  
include hc hh in
theorem hof_any (m : Nat) (st : Store) (b : Bd) (hb : BNOk b) (c : Ch) (x : Txt) (hx : ltrOf c = some x) (ho : LOk b c) : Ret (callN p (m + 2) 4 [c.v, .dct (bks b) (bxs b)] st) fun v s => v = .tup ((headsC b c).map .str) ∧ Gr st s := by
  obtain ⟨ks, hm⟩ := ho.l x hx
  cases c with
  | ltr y =>
    simp only [ltrOf, Option.some.injEq] at hx
    subst hx
    obtain ⟨b1, b2, b3⟩ := hb.2 _ hm
    have := hof_ok hc hh m st b hb.1 y ks hm b1 b3
    simp only [headsC, hsx_of hb.1 hm]
    exact this
  | cut y hs => exact (hof_cut hh (m + 1) st y hs _).imp fun v s ⟨e1, e2⟩ => ⟨e1, e2 ▸ Gr.refl⟩
  | _ => simp [ltrOf] at hx
end
end Mi
namespace Mi
/-! == of data -/
def Dt : Nat → Val → Prop
  | 0, _ => False
  | n + 1, v => (match v with
    | .non => True
    | .int _ => True
    | .str _ => True
    | .tup xs => ∀ x ∈ xs, Dt n x
    | .lst xs => ∀ x ∈ xs, Dt n x
    | _ => False)
theorem Dt.up : ∀ {n : Nat} {v : Val}, Dt n v → Dt (n + 1) v := by
  intro n
  induction n with
  | zero => intro v h; exact h.elim
  | succ n ih =>
    intro v h
    cases v with
    | tup xs => exact fun x hx => ih (h x hx)
    | lst xs => exact fun x hx => ih (h x hx)
    | non => trivial
    | int _ => trivial
    | str _ => trivial
    | _ => exact h.elim
theorem Dt.le {n : Nat} {v : Val} (h : Dt n v) : ∀ m, Dt (n + m) v
  | 0 => h
  | m + 1 => (Dt.le h m).up
theorem eqz_dt {f : Val → Val → Option Bool} : ∀ {xs ys : List Val}, (∀ x ∈ xs, ∀ y ∈ ys, ∃ r, f x y = some r ∧ (r = true ↔ x = y)) → ∃ r, eqz f xs ys = some r ∧ (xs.length = ys.length → (r = true ↔ xs = ys))
  | [], [], _ => ⟨true, rfl, fun _ => by simp⟩
  | [], _ :: _, _ => ⟨true, rfl, fun h => by simp at h⟩
  | _ :: _, [], _ => ⟨true, rfl, fun h => by simp at h⟩
  | x :: xs, y :: ys, h => by
    obtain ⟨r, e, k⟩ := h x (by simp) y (by simp)
    obtain ⟨r2, e2, k2⟩ := eqz_dt (xs := xs) (ys := ys) fun a ha b hb => h a (by simp [ha]) b (by simp [hb])
    refine ⟨r && r2, by simp only [eqz, e, e2, Option.bind, Option.map], fun hl => ?_⟩
    have k2 := k2 (by simpa using hl)
    rw [Bool.and_eq_true, k, k2, List.cons.injEq]
theorem eqv_dt (st : Store) : ∀ (n : Nat) (x y : Val), Dt n x → Dt n y → ∃ r, eqv st n x y = some r ∧ (r = true ↔ x = y) := by
  intro n
  induction n with
  | zero => intro x y h; exact h.elim
  | succ n ih =>
    intro x y hx hy
    have seq : ∀ {xs ys : List Val}, (∀ x ∈ xs, Dt n x) → (∀ y ∈ ys, Dt n y) → ∃ r, eqz (eqv st n) xs ys = some r ∧ (xs.length = ys.length → (r = true ↔ xs = ys)) := fun {xs ys} h1 h2 => eqz_dt fun a ha b hb => ih a b (h1 a ha) (h2 b hb)
    cases x <;> first | exact hx.elim | skip
    all_goals cases y <;> first | exact hy.elim | skip
    all_goals first
      | exact ⟨_, rfl, by simp [eqf]⟩
      | exact ⟨false, rfl, by simp⟩
      | skip
    · rename_i xs ys
      obtain ⟨r, e, k⟩ := seq (xs := xs) (ys := ys) hx hy
      refine ⟨r && xs.length == ys.length, by simp only [eqv, view, e, Option.map], ?_⟩
      rw [Bool.and_eq_true, beq_iff_eq]
      constructor
      · rintro ⟨a, b⟩
        rw [(k b).mp a]
      · intro z
        cases z
        exact ⟨(k rfl).mpr rfl, rfl⟩
    · rename_i xs ys
      obtain ⟨r, e, k⟩ := seq (xs := xs) (ys := ys) hx hy
      by_cases hl : xs.length = ys.length
      · refine ⟨r, by simp only [eqv, view, e, if_pos hl], ?_⟩
        rw [k hl]
        exact ⟨fun z => by rw [z], fun z => by cases z; rfl⟩
      · exact ⟨false, by simp only [eqv, view, if_neg hl], ⟨(fun z => by cases z), (fun z => by cases z; exact absurd rfl hl)⟩⟩
theorem eqv_self {st : Store} {n : Nat} {x : Val} (h : Dt n x) : eqv st n x x = some true := by
  obtain ⟨r, e, k⟩ := eqv_dt st n x x h h
  rw [e, k.mpr rfl]
theorem eqz_self {st : Store} {n : Nat} {xs : List Val} (h : ∀ x ∈ xs, Dt n x) : eqz (eqv st n) xs xs = some true := by
  obtain ⟨r, e, k⟩ := eqz_dt (f := eqv st n) (xs := xs) (ys := xs) fun a ha b hb => eqv_dt st n a b (h a ha) (h b hb)
  rw [e, (k rfl).mpr rfl]
theorem in_dt {st : Store} {x : Val} (hx : Dt 60 x) : ∀ {xs : List Val}, (∀ y ∈ xs, Dt 60 y) → ∃ r, inV' st x xs = some r ∧ (r = true ↔ x ∈ xs)
  | [], _ => ⟨false, rfl, by simp⟩
  | y :: ys, h => by
    obtain ⟨r, e, k⟩ := eqv_dt st 60 y x (h y (by simp)) hx
    obtain ⟨r2, e2, k2⟩ := in_dt (st := st) hx (xs := ys) fun z hz => h z (by simp [hz])
    refine ⟨r || r2, by simp only [inV', e, e2, Option.bind, Option.map], ?_⟩
    rw [Bool.or_eq_true, k, k2, List.mem_cons]
    exact ⟨fun z => z.elim (fun a => .inl a.symm) .inr, fun z => z.elim (fun a => .inl a.symm) .inr⟩
theorem eq_lists {st : Store} {n : Nat} {x y : Val} {xs : List Val} (hx : view st x = some (.lst xs)) (hy : view st y = some (.lst xs)) (h : ∀ x ∈ xs, Dt n x) : eqv st (n + 1) x y = some true := by
  simp only [eqv, hx, hy, if_true]
  exact eqz_self h
theorem eqd_self {st : Store} {n : Nat} {ls : List Txt} {ys : List Val} (nd : ls.Nodup) (hl : ls.length = ys.length) (h : ∀ y ∈ ys, Dt n y) : ∀ {ks : List Txt} {xs : List Val}, (∀ (j : Nat) (k : Txt) (x : Val), ks[j]? = some k → xs[j]? = some x → ∃ i : Nat, ls[i]? = some k ∧ ys[i]? = some x) → eqd (eqv st n) ls ys ks xs = some true
  | [], _, _ => rfl
  | _ :: _, [], _ => rfl
  | k :: ks, x :: xs, q => by
    obtain ⟨i, h1, h2⟩ := q 0 k x rfl rfl
    simp only [eqd, look_at nd h1 h2, eqv_self (h x (List.mem_of_getElem? h2)), Option.bind]
    rw [eqd_self nd hl h fun j k x hk hx => q (j + 1) k x hk hx]
    rfl
theorem eq_dicts {st : Store} {n : Nat} {x y : Val} {ks : List Txt} {xs : List Val} (nd : ks.Nodup) (hl : ks.length = xs.length) (hx : view st x = some (.dct ks xs)) (hy : view st y = some (.dct ks xs)) (h : ∀ x ∈ xs, Dt n x) : eqv st (n + 1) x y = some true := by
  simp only [eqv, hx, hy, if_true]
  exact eqd_self nd hl h fun j k x hk hx => ⟨j, hk, hx⟩
theorem ck_some {n : Nat} {xs : List Val} {st : Store} (h : st[n]? = some (.lst xs)) : ckOf (some n) xs st = true := @decide_eq_true _ (Classical.propDecidable _) h
/-! kinds are data -/
theorem Ch.dt : ∀ {d : Nat} {c : Ch}, c.dp ≤ d → Dt (4 * d + 3) c.v := by
  have strv : ∀ (hs : List Txt) (n : Nat), ∀ x ∈ hs.map Val.str, Dt (n + 1) x := fun hs n x hx => by
    obtain ⟨t, _, rfl⟩ := List.mem_map.mp hx
    trivial
  have two : ∀ {n : Nat} {a : Txt} {v : Val}, Dt (n + 1) v → Dt (n + 2) (.tup [.str a, v]) := fun {n a v} h x hx => by
    simp only [List.mem_cons, List.not_mem_nil, or_false] at hx
    rcases hx with rfl | rfl
    · trivial
    · exact h
  intro d
  induction d with
  | zero =>
    intro c h
    cases c with
    | box b ks => simp [Ch.dp] at h
    | shp fs => simp [Ch.dp] at h
    | cut x hs =>
      intro y hy
      simp only [List.mem_cons, List.not_mem_nil, or_false] at hy
      rcases hy with rfl | rfl | rfl
      · trivial
      · trivial
      · exact strv hs 0
    | num => intro y hy; simp at hy; subst hy; trivial
    | txt => intro y hy; simp at hy; subst hy; trivial
    | _ => exact two (n := 1) trivial
  | succ d ih =>
    intro c h
    have kd : ∀ {ks : List Ch}, Ch.dps ks ≤ d → Dt (4 * d + 4) (.tup (Ch.vs ks)) := fun {ks} hk x hx => by
      rw [Ch.vs_map] at hx
      obtain ⟨k, hk', rfl⟩ := List.mem_map.mp hx
      exact ih (Ch.dps_le.mp hk k hk')
    cases c with
    | box b ks =>
      simp only [Ch.dp] at h
      exact two (n := 4 * d + 5) ((kd (by omega)).up.up)
    | shp fs =>
      simp only [Ch.dp] at h
      refine two (n := 4 * d + 5) fun x hx => ?_
      rw [Ch.fs_map] at hx
      obtain ⟨⟨f, ks⟩, hf, rfl⟩ := List.mem_map.mp hx
      exact two (n := 4 * d + 3) (kd (Ch.dpf_le.mp (by omega) _ hf))
    | cut x hs =>
      intro y hy
      simp only [List.mem_cons, List.not_mem_nil, or_false] at hy
      rcases hy with rfl | rfl | rfl
      · trivial
      · trivial
      · exact strv hs (4 * d + 4)
    | num => intro y hy; simp at hy; subst hy; trivial
    | txt => intro y hy; simp at hy; subst hy; trivial
    | _ => exact two (n := 4 * d + 5) trivial
theorem kdT_dt {d : Nat} {ks : List Ch} (h : ∀ k ∈ ks, k.dp ≤ d) : Dt (4 * d + 4) (.tup (Ch.vs ks)) := fun x hx => by
  rw [Ch.vs_map] at hx
  obtain ⟨k, hk', rfl⟩ := List.mem_map.mp hx
  exact Ch.dt (h k hk')
theorem strs_inj : ∀ {as bs : List Txt}, as.map Val.str = bs.map Val.str → as = bs
  | [], [], _ => rfl
  | [], _ :: _, e => by simp at e
  | _ :: _, [], e => by simp at e
  | a :: as, b :: bs, e => by
    simp only [List.map_cons, List.cons.injEq, Val.str.injEq] at e
    rw [e.1, strs_inj e.2]
theorem vs_inj {P : Ch → Prop} (H : ∀ a b : Ch, P a → a.v = b.v → a = b) : ∀ {ks ls : List Ch}, (∀ k ∈ ks, P k) → Ch.vs ks = Ch.vs ls → ks = ls
  | [], [], _, _ => rfl
  | [], _ :: _, _, e => by simp [Ch.vs] at e
  | _ :: _, [], _, e => by simp [Ch.vs] at e
  | k :: ks, l :: ls, h, e => by
    simp only [Ch.vs, List.cons.injEq] at e
    rw [H k l (h k (by simp)) e.1, vs_inj H (fun z hz => h z (by simp [hz])) e.2]
theorem fs_inj {P : Ch → Prop} (H : ∀ a b : Ch, P a → a.v = b.v → a = b) : ∀ {fs gs : List (Txt × List Ch)}, (∀ f ∈ fs, ∀ k ∈ f.2, P k) → Ch.fs fs = Ch.fs gs → fs = gs
  | [], [], _, _ => rfl
  | [], _ :: _, _, e => by simp [Ch.fs] at e
  | _ :: _, [], _, e => by simp [Ch.fs] at e
  | (f, ks) :: fs, (g, ls) :: gs, h, e => by
    simp only [Ch.fs, Ch.fd, List.cons.injEq, Val.tup.injEq, Val.str.injEq, and_true] at e
    obtain ⟨⟨rfl, e1⟩, e2⟩ := e
    rw [vs_inj (ks := ks) H (h (f, ks) (by simp)) e1, fs_inj H (fun z hz => h z (by simp [hz])) e2]
theorem Ch.v_injD : ∀ (d : Nat) (a b : Ch), a.dp ≤ d → a.v = b.v → a = b := by
  intro d
  induction d with
  | zero =>
    intro a b h e
    cases a with
    | box x ks => simp [Ch.dp] at h
    | shp fs => simp [Ch.dp] at h
    | cut x hs =>
      cases b with
      | cut y gs =>
        simp only [Ch.v, Val.tup.injEq, List.cons.injEq, Val.str.injEq, and_true, true_and] at e
        rw [e.1, strs_inj e.2]
      | box bb _ => cases bb <;> simp [Ch.v] at e
      | som bb => cases bb <;> simp [Ch.v] at e
      | _ => simp [Ch.v] at e
    | som x =>
      cases b with
      | som y => cases x <;> cases y <;> simp [Ch.v] at e ⊢
      | box bb _ => cases bb <;> simp [Ch.v] at e
      | _ => simp [Ch.v] at e
    | _ =>
      cases b with
      | box bb _ => cases bb <;> simp [Ch.v] at e
      | som bb => cases bb <;> simp [Ch.v] at e
      | _ => first | rfl | (simp [Ch.v] at e; done) | (simp [Ch.v] at e; rw [e])
  | succ d ih =>
    intro a b h e
    cases a with
    | box x ks =>
      simp only [Ch.dp] at h
      have P : ∀ k ∈ ks, k.dp ≤ d := Ch.dps_le.mp (by omega)
      cases b with
      | box y ls =>
        have e2 : ks = ls := by
          simp only [Ch.v, Val.tup.injEq, List.cons.injEq, and_true] at e
          exact vs_inj ih P e.2
        subst e2
        cases x <;> cases y <;> simp [Ch.v] at e ⊢
      | som y => cases x <;> cases y <;> simp [Ch.v] at e
      | _ => cases x <;> simp [Ch.v] at e
    | shp fs =>
      simp only [Ch.dp] at h
      cases b with
      | shp gs =>
        simp only [Ch.v, Val.tup.injEq, List.cons.injEq, and_true, true_and] at e
        rw [fs_inj ih (fun f hf => Ch.dps_le.mp (Ch.dpf_le.mp (by omega) f hf)) e]
      | box bb _ => cases bb <;> simp [Ch.v] at e
      | som bb => cases bb <;> simp [Ch.v] at e
      | _ => simp [Ch.v] at e
    | cut x hs =>
      cases b with
      | cut y gs =>
        simp only [Ch.v, Val.tup.injEq, List.cons.injEq, Val.str.injEq, and_true, true_and] at e
        rw [e.1, strs_inj e.2]
      | box bb _ => cases bb <;> simp [Ch.v] at e
      | som bb => cases bb <;> simp [Ch.v] at e
      | _ => simp [Ch.v] at e
    | som x =>
      cases b with
      | som y => cases x <;> cases y <;> simp [Ch.v] at e ⊢
      | box bb _ => cases bb <;> simp [Ch.v] at e
      | _ => simp [Ch.v] at e
    | _ =>
      cases b with
      | box bb _ => cases bb <;> simp [Ch.v] at e
      | som bb => cases bb <;> simp [Ch.v] at e
      | _ => first | rfl | (simp [Ch.v] at e; done) | (simp [Ch.v] at e; rw [e])
theorem Ch.v_inj {a b : Ch} (e : a.v = b.v) : a = b := Ch.v_injD a.dp a b (Nat.le_refl _) e
/-! rows by their texts -/
abbrev rowV (c : Ch) : Val := .tup [.str c.sh, c.v]
theorem row_inj {a b : Ch} (e : rowV a = rowV b) : a = b := by
  simp only [rowV, Val.tup.injEq, List.cons.injEq, and_true] at e
  exact Ch.v_inj e.2
theorem row_dt {d : Nat} {c : Ch} (h : c.dp ≤ d) : Dt (4 * d + 4) (rowV c) := by
  intro x hx
  simp only [List.mem_cons, List.not_mem_nil, or_false] at hx
  rcases hx with rfl | rfl
  · trivial
  · exact Ch.dt h
theorem rows_es : ∀ es : List Ch, rowsOf (es.map rowV) = some (es.map fun c => (c.sh, rowV c))
  | [] => rfl
  | c :: es => by simp only [List.map_cons, rowV, rowsOf, rows_es es, Option.map]
def insC (c : Ch) : List Ch → List Ch
  | [] => [c]
  | y :: ys => if ltT y.sh c.sh then y :: insC c ys else c :: y :: ys
def sortC : List Ch → List Ch
  | [] => []
  | x :: xs => insC x (sortC xs)
theorem insC_map (c : Ch) : ∀ l : List Ch, insK (c.sh, rowV c) (l.map fun c => (c.sh, rowV c)) = (insC c l).map fun c => (c.sh, rowV c)
  | [] => rfl
  | y :: ys => by
    simp only [List.map_cons, insK, insC]
    split
    · simp only [List.map_cons, insC_map c ys]
    · rfl
theorem sortC_map : ∀ l : List Ch, sortKs (l.map fun c => (c.sh, rowV c)) = (sortC l).map fun c => (c.sh, rowV c)
  | [] => rfl
  | x :: xs => by simp only [List.map_cons, sortKs, sortC, sortC_map xs, insC_map]
theorem insC_perm (x : Ch) : ∀ l : List Ch, (insC x l).Perm (x :: l)
  | [] => .refl _
  | y :: ys => by
    unfold insC
    split
    · exact ((insC_perm x ys).cons y).trans (.swap ..)
    · exact .refl _
theorem sortC_perm : ∀ l : List Ch, (sortC l).Perm l
  | [] => .refl _
  | x :: xs => (insC_perm x _).trans ((sortC_perm xs).cons x)
theorem sortC_sorted {d : Nat} {es : List Ch} (h : EsOk d es) : (sortC es).Pairwise LtSh := by
  have s := sortKs_sorted (es.map fun c => (c.sh, rowV c))
  rw [sortC_map, List.pairwise_map] at s
  have nd : ((sortC es).map Ch.sh).Nodup := ((sortC_perm es).map Ch.sh).nodup_iff.mpr h.nd
  rw [List.nodup_iff_pairwise_ne, List.pairwise_map] at nd
  refine (s.and nd).imp fun {a b} hab => ?_
  show ltT a.sh b.sh = true
  cases q : ltT a.sh b.sh with
  | true => rfl
  | false => exact absurd (ltT_tri q hab.1) hab.2
end Mi
namespace Mi
local macro_rules | `(tactic| array_mem_dec) => `(tactic| repeat (first | (with_reducible refine t_seq ?_) | (with_reducible refine t_skip ?_) | (with_reducible refine t_asg ?_) | (with_reducible refine t_ret ?_) | (with_reducible refine t_expr ?_) | (with_reducible refine t_put ?_) | (with_reducible refine t_ite ?_) | (with_reducible refine t_for ?_) | (with_reducible refine t_asgT ?_) | ((with_reducible apply v_var); rfl) | ((with_reducible apply b_var); rfl) | ((with_reducible apply i_var); rfl) | (with_reducible refine v_lit ?_) | (with_reducible refine v_ix ?_) | (with_reducible refine v_bin ?_) | (with_reducible refine v_cmp ?_) | (with_reducible refine v_call ?_) | (with_reducible refine v_tup ?_) | (with_reducible refine v_lst ?_) | (with_reducible refine v_new ?_) | (with_reducible refine v_fn ?_) | (with_reducible refine v_isi ?_) | (with_reducible refine v_mt ?_) | (with_reducible refine v_and ?_) | (with_reducible refine v_or ?_) | (with_reducible refine v_not ?_) | (with_reducible refine v_ite ?_) | (with_reducible refine v_neg ?_) | (with_reducible refine v_chain ?_) | (with_reducible refine v_isN ?_) | (with_reducible refine v_isB ?_) | (with_reducible refine v_lc ?_) | (with_reducible refine a_cons ?_) | (with_reducible refine a_nil ?_) | (with_reducible refine b_cmp ?_) | (with_reducible refine b_and ?_) | (with_reducible refine b_or ?_) | (with_reducible refine b_not ?_) | (with_reducible refine b_call ?_) | (with_reducible refine b_isi ?_) | (with_reducible refine b_lit ?_) | (with_reducible refine b_isN ?_) | (with_reducible refine b_isB ?_) | (with_reducible refine b_chain ?_) | (with_reducible refine b_mt ?_) | (with_reducible refine b_fn ?_) | (with_reducible refine i_rng ?_) | (with_reducible refine i_ix ?_) | (with_reducible refine i_fn ?_) | (with_reducible refine i_call ?_) | (with_reducible refine i_bin ?_) | (with_reducible refine i_lst ?_) | (with_reducible refine i_sortK ?_) | (with_reducible refine i_tup ?_) | (with_reducible refine i_lc ?_) | (with_reducible refine v_dcpy ?_) | (with_reducible refine v_lnew ?_) | refine ⟨Nat.le_of_ble_eq_true rfl, ?_⟩ | refine ⟨_, rfl, ?_⟩))
theorem CutOk.tc {c : Cst} (hc : Cok c) {n : Nat} {b : Bd} (hb : BOk c n b) {d : Nat} {ch : Ch} (h : CutOk b ch) : TC d ch ∧ ch.sh.length ≤ 1000 := by
  obtain ⟨x, ks, hx, h⟩ := h
  obtain ⟨u, l, ls, hm, hls⟩ := letter_ok hc hb (List.mem_map.mpr ⟨_, hx, rfl⟩)
  rcases h with rfl | ⟨i, j, h1, h2, h3, rfl⟩
  · exact ⟨by cases d <;> exact u, by show x.length ≤ 1000; have : x.length ≤ 8 := l; omega⟩
  · have hk := (hb.all _ hx).2
    have hh := heads_hds hc hk
    have sub : ∀ t ∈ ((Ch.heads ks).drop i).take j, t ∈ Ch.heads ks := fun t ht => List.mem_of_mem_drop (List.mem_of_mem_take ht)
    have ne : ((Ch.heads ks).drop i).take j ≠ [] := fun z => by
      have := congrArg List.length z
      simp at this
      omega
    refine ⟨by cases d <;> exact ⟨u, ne, fun t ht => (hh.ch t (sub t ht)).2⟩, ?_⟩
    have le : (((Ch.heads ks).drop i).take j).length ≤ 3 := Nat.le_trans (by simp; omega) hh.len
    have := joinT_le (sep := [44, 32]) (B := 23) (ts := ((Ch.heads ks).drop i).take j) fun t ht => (hh.ch t (sub t ht)).1
    have l2 := Nat.mul_le_mul_right (23 + [44, 32].length) le
    have l : x.length ≤ 8 := l
    simp only [Ch.sh, List.length_append, List.length_cons, List.length_nil] at this l2 ⊢
    omega
theorem AnyOk.tc {c : Cst} (hc : Cok c) {n : Nat} {b : Bd} (hb : BOk c n b) {d : Nat} (hd : d ≤ 2) {ks : List Ch} (h : AnyOk c b d ks) : ks.length ≤ 4 ∧ ∀ k ∈ ks, TC d k ∧ k.sh.length ≤ 1000 := by
  obtain ⟨ks0, cs, rfl, h1, h2⟩ := h
  have l1 := h1.1.2
  have b1 : ∀ k ∈ ks0, TC d k ∧ k.sh.length ≤ 1000 := fun k hk => by
    refine ⟨(h1.2 k hk).tc (fun x hx => (letter_ok hc hb hx).1) (Nw.word hc), ?_⟩
    have := (h1.2 k hk).sh_len (fun x hx => (letter_ok hc hb hx).2.1) (fun f hf => (Nw.word hc f hf).len)
    obtain rfl | rfl | rfl : d = 0 ∨ d = 1 ∨ d = 2 := by omega
    all_goals exact Nat.le_trans this (by decide)
  rcases h2 with rfl | ⟨ch, rfl, hch⟩
  · exact ⟨by simp; omega, fun k hk => b1 k (by simpa using hk)⟩
  · refine ⟨by simp; omega, fun k hk => ?_⟩
    rcases List.mem_append.mp hk with hk | hk
    · exact b1 k hk
    · simp at hk; subst hk; exact hch.tc hc hb
section
variable {p : Prg} (hk : p.fns[19]? = some d_law_told) (hc : p.fns[20]? = some d_law_told_choice) (hj : p.fns[21]? = some d_law_join)
theorem told_at (hk : p.fns[19]? = some d_law_told) (hc : p.fns[20]? = some d_law_told_choice) (d m : Nat) (st : Store) (c : Ch) (h : c.dp ≤ d) (hl : c.sh.length ≤ 1000000) : Ret (callN p (m + 2 * d + 1) 20 [c.v] st) fun v s => v = .str c.sh ∧ s = st := by
  refine toldC_step hc (m + 2 * d) st c (by omega) fun ls h2 h3 => ?_
  cases d with
  | zero => omega
  | succ d =>
    rw [show m + 2 * (d + 1) = m + 2 * d + 2 by omega]
    exact told_ok hk hc d m st ls (by omega) h3
include hk hc hj in
theorem lawjoin_ok (d m : Nat) (h14 : d ≤ 10) (st : Store) (kv : Val) (o : Option Nat) (ls : List (List Ch)) (hit : ∀ o', itemsOf (st ++ [o']) kv = some (ls.map kdT, o)) (hck : ∀ o', ckOf o (ls.map kdT) (st ++ [o']) = true)
    (hn : ls.flatten.length ≤ 60) (hin : ∀ c ∈ ls.flatten, TC d c ∧ c.sh.length ≤ 1000000) :
    Ret (callN p (m + 2 * d + 1 + 1) 21 [kv] st) fun v s => (∃ R, v = kdT R ∧ R.Pairwise LtSh ∧ ∀ c, c ∈ R ↔ c ∈ ls.flatten) ∧ ∃ o', s = st ++ [o'] := by
  have dtr : ∀ {c : Ch}, TC d c → Dt 60 (rowV c) := fun {c} h => by
    obtain ⟨k, hk⟩ := Nat.exists_eq_add_of_le (show 4 * d + 4 ≤ 60 by omega)
    rw [hk]
    exact (row_dt h.dp).le k
  refine call_of hj rfl ?_
  simp only [d_law_join, List.map_cons, List.map_nil, List.length_cons, List.length_nil, List.cons_append, List.nil_append, Nat.reduceAdd, Nat.reduceSub, Nat.zero_add, Nat.add_zero, Nat.sub_self, Nat.sub_zero, List.replicate]
  array_mem_dec
  refine ⟨_, hit _, ?_⟩
  refine for_invC (fun k η s => (∃ y z w, η = [some kv, some (.loc st.length), y, z, w]) ∧ ∃ es : List Ch, s = st ++ [.lst (es.map rowV)] ∧ EsOk d es ∧ (∀ c, c ∈ es ↔ c ∈ (ls.take k).flatten) ∧ es.length ≤ (ls.take k).flatten.length) ?_ ?_ ?_ ?_
  · exact ⟨⟨none, none, none, rfl⟩, [], rfl, ⟨by simp, by simp⟩, by simp, by simp⟩
  · rintro k η s ⟨_, es, rfl, _⟩
    exact hck _
  · rintro k x hx η s ⟨⟨y, z, w, rfl⟩, es, rfl, hes, hm, hle⟩
    rw [List.getElem?_map] at hx
    cases hq : ls[k]? with
    | none => rw [hq] at hx; cases hx
    | some ks =>
      rw [hq] at hx
      cases hx
      have hsub : ∀ c ∈ ks, c ∈ ls.flatten := fun c hc' => List.mem_flatten.mpr ⟨ks, List.mem_of_getElem? hq, hc'⟩
      have hl1 : (ls.take k).flatten.length + ks.length ≤ 60 := by
        have e := take_flat hq
        have : (ls.take (k + 1)).flatten.length ≤ ls.flatten.length := by
          have h2 : ls.flatten = (ls.take (k + 1)).flatten ++ (ls.drop (k + 1)).flatten := by rw [← List.flatten_append, List.take_append_drop]
          rw [h2, List.length_append]; omega
        rw [e, List.length_append] at this
        omega
      refine ⟨_, rfl, ?_⟩
      array_mem_dec
      rw [ckN]
      refine for_inv (fun j η s => (∃ z w, η = [some kv, some (.loc st.length), some (kdT ks), z, w]) ∧ ∃ es : List Ch, s = st ++ [.lst (es.map rowV)] ∧ EsOk d es ∧ (∀ c, c ∈ es ↔ c ∈ (ls.take k).flatten ∨ c ∈ ks.take j) ∧ es.length ≤ (ls.take k).flatten.length + j) ?_ ?_ ?_
      · exact ⟨⟨_, _, rfl⟩, es, rfl, hes, fun c => by simp [hm], by omega⟩
      · rintro j x hx η s ⟨⟨z, w, rfl⟩, es, rfl, hes, hm, hle⟩
        rw [Ch.vs_map, List.getElem?_map] at hx
        cases hq2 : ks[j]? with
        | none => rw [hq2] at hx; cases hx
        | some c =>
          rw [hq2] at hx
          cases hx
          have hj' := (List.getElem?_eq_some_iff.mp hq2).1
          obtain ⟨tc, tl⟩ := hin c (hsub c (List.mem_of_getElem? hq2))
          have memS : ∀ x, (x ∈ (ls.take k).flatten ∨ x ∈ ks.take (j + 1)) ↔ (x ∈ es ∨ x = c) := fun x => by
            rw [hm, List.take_succ, hq2]
            simp only [Option.toList_some, List.mem_append, List.mem_singleton]
            constructor
            · rintro (a | a | a)
              · exact .inl (.inl a)
              · exact .inl (.inr a)
              · exact .inr a
            · rintro ((a | a) | a)
              · exact .inl a
              · exact .inr (.inl a)
              · exact .inr (.inr a)
          refine ⟨_, rfl, ?_⟩
          array_mem_dec
          refine (told_at hk hc d m _ c tc.dp tl).imp fun v s1 ⟨e1, e2⟩ => ?_
          subst e1 e2
          array_mem_dec
          obtain ⟨r, er, kr⟩ := in_dt (st := st ++ [.lst (es.map rowV)]) (x := rowV c) (dtr tc) (xs := es.map rowV) fun y hy => by
            obtain ⟨a, ha, rfl⟩ := List.mem_map.mp hy
            exact dtr (hes.tc a ha)
          have kr : r = true ↔ c ∈ es := by
            rw [kr]
            constructor
            · intro h
              obtain ⟨a, ha, e⟩ := List.mem_map.mp h
              rw [← row_inj e]; exact ha
            · exact fun h => List.mem_map.mpr ⟨c, h, rfl⟩
          refine ⟨!r, ?_, ?_⟩
          · simp only [cmpV, isinV, last_at]
            exact congrArg (Option.map (!·)) er
          refine ⟨fun q => ?_, fun q => ?_⟩
          · have nc : c ∉ es := fun z => by rw [kr.mpr z] at q; cases q
            array_mem_dec
            refine ⟨app_at last_at, ?_⟩
            array_mem_dec
            refine (told_at hk hc d m _ c tc.dp tl).imp fun v s1 ⟨e1, e2⟩ => ?_
            subst e1 e2
            array_mem_dec
            have lt : (es.map rowV).length < PySem.sizeLine := by
              rw [List.length_map, show PySem.sizeLine = 16777216 from rfl]; omega
            refine ⟨(.non, st ++ [.lst ((es ++ [c]).map rowV)]), ?_, ?_⟩
            · simp only [mtV, last_at, if_pos lt, set_last, List.map_append, List.map_cons, List.map_nil]
            array_mem_dec
            refine ⟨⟨_, _, rfl⟩, es ++ [c], rfl, ⟨?_, fun x hx => ?_⟩, fun x => ?_, by rw [List.length_append, List.length_cons, List.length_nil]; omega⟩
            · rw [List.map_append, List.nodup_append]
              refine ⟨hes.nd, by simp, fun a ha b hb e => ?_⟩
              simp at hb
              subst hb e
              obtain ⟨y, hy, e⟩ := List.mem_map.mp ha
              rw [sh_inj (hes.tc y hy) tc e] at hy
              exact nc hy
            · rcases List.mem_append.mp hx with hx | hx
              · exact hes.tc x hx
              · simp at hx; subst hx; exact tc
            · rw [memS]; simp
          · have nc : c ∈ es := by
              cases r with
              | true => exact kr.mp rfl
              | false => cases q
            array_mem_dec
            refine ⟨⟨_, _, rfl⟩, es, rfl, hes, fun x => ?_, by omega⟩
            rw [memS]
            exact ⟨.inl, fun z => z.elim id fun e => by subst e; exact nc⟩
      · rintro η s ⟨⟨z, w, rfl⟩, es, rfl, hes, hm, hle⟩
        array_mem_dec
        have lv : (Ch.vs ks).length = ks.length := by rw [Ch.vs_map, List.length_map]
        have hle : es.length ≤ (ls.take k).flatten.length + (Ch.vs ks).length := hle
        refine ⟨⟨_, _, _, rfl⟩, es, rfl, hes, fun c => ?_, ?_⟩
        · rw [hm, take_flat hq, List.mem_append, lv, List.take_length]
        · rw [take_flat hq, List.length_append]; omega
  · rintro η s ⟨⟨y, z, w, rfl⟩, es, rfl, hes, hm, hle⟩
    rw [List.length_map, List.take_length] at hm hle
    array_mem_dec
    refine v_sortK ?_
    array_mem_dec
    refine ⟨es.map rowV, _, ?_, rows_es es, ?_, ?_⟩
    · simp only [asL, last_at]
    · rw [List.map_map]; exact hes.nd
    refine ⟨_, rfl, ?_⟩
    rw [ckN, sortC_map, List.map_map]
    refine lc_map (fun c : Ch => rowV c) (fun c => c.v) _ _ (fun c hc' => ⟨_, rfl, fun _ => rfl, ?_⟩) ?_ ?_
    · array_mem_dec
      exact ⟨rfl, rfl⟩
    · have := (sortC_perm es).length_eq
      simp only [List.length_nil, show PySem.sizeLine = 16777216 from rfl]; omega
    array_mem_dec
    refine ⟨⟨sortC es, ?_, sortC_sorted hes, fun c => by rw [(sortC_perm es).mem_iff, hm]⟩, _, rfl⟩
    rw [kdT, Ch.vs_map]; rfl
include hk hc hj in
theorem lawjoin_jn (d m : Nat) (h14 : d ≤ 10) (st : Store) (kv : Val) (o : Option Nat) (ls : List (List Ch)) (hit : ∀ o', itemsOf (st ++ [o']) kv = some (ls.map kdT, o)) (hck : ∀ o', ckOf o (ls.map kdT) (st ++ [o']) = true)
    (hn : ls.flatten.length ≤ 60) (hin : ∀ c ∈ ls.flatten, TC d c ∧ c.sh.length ≤ 1000000) :
    Ret (callN p (m + 2 * d + 1 + 1) 21 [kv] st) fun v s => v = kdT (jn ls.flatten) ∧ Gr st s := by
  refine (lawjoin_ok hk hc hj d m h14 st kv o ls hit hck hn hin).imp fun v s q => ?_
  obtain ⟨⟨R, e, h1, h2⟩, o', es⟩ := q
  obtain ⟨j1, j2⟩ := jn_ok (d := d) (cs := ls.flatten) fun c hc' => (hin c hc').1
  have : R = jn ls.flatten := ltsh_uniq h1 j1 fun x => by rw [h2, j2]
  subst this
  exact ⟨e, es ▸ Gr.one⟩
end
end Mi
namespace Mi
/-! kinds put in -/
theorem lc_mapJ {α : Type} {η : Env} {tg : Tg} {T : Env → Store → Res Bool} {E : Env → Store → Res Val} (J : Store → Prop) (g f : α → Val) {R : List Val → Store → Prop} : ∀ (l : List α) (acc : List Val) (st : Store), J st →
    (∀ a ∈ l, ∃ η1, asgTg tg (g a) η = some η1 ∧ (∀ s, T η1 s = .ok true s) ∧ ∀ s, J s → Ret (E η1 s) fun v s' => v = f a ∧ J s') → acc.length + l.length ≤ PySem.sizeLine →
    (∀ s, J s → R (acc ++ l.map f) s) → Ret (lcLoop (fun _ => true) tg η T E (l.map g) acc st) R
  | [], acc, st, j, _, _, r => by
    have := r st j
    rw [List.map_nil, List.append_nil] at this
    exact ret_ok this
  | a :: l, acc, st, j, h, hl, r => by
    obtain ⟨η1, e, hT, hE⟩ := h a (by simp)
    simp only [List.map_cons, lcLoop, if_true, e, hT]
    refine ret_bindN (r := Res.ok true st) (ret_ok ?_)
    refine ret_bindN ((hE st j).imp fun v s ⟨hv, hs⟩ => ?_)
    rw [if_pos (by simp at hl; omega), hv]
    exact lc_mapJ J g f l _ s hs (fun y hy => h y (by simp [hy])) (by simp at hl ⊢; omega) (fun s js => by simpa using r s js)
theorem for_map {α : Type} {D : De} {tg : Tg} {K : Env → Store → Fl} (g : α → Val) (J : Nat → Env → Store → Prop) {l : List α} {η : Env} {st : Store} (h0 : J 0 η st)
    (h : ∀ (k : Nat) (a : α), l[k]? = some a → ∀ η st, J k η st → ∃ η1, asgTg tg (g a) η = some η1 ∧ FlP (K η1 st) { nx := J (k + 1), rt := D.rt, bk := D.nx, ct := J (k + 1) })
    (hd : ∀ η st, J l.length η st → D.nx η st) : FlP (forLoop (fun _ => true) tg K (l.map g) η st) D := by
  refine for_inv J h0 (fun k x hx η st j => ?_) (fun η st j => hd η st (by simpa using j))
  rw [List.getElem?_map] at hx
  cases q : l[k]? with
  | none => rw [q] at hx; cases hx
  | some a => rw [q] at hx; cases hx; exact h k a q η st j
def piC (b : Bd) : Nat → Ch → List Ch
  | 0, c => (match c with
    | .ltr x => bndK b x
    | c => [c])
  | d + 1, c => (match c with
    | .ltr x => bndK b x
    | .box bb ls => [.box bb (jn (ls.flatMap (piC b d)))]
    | .shp fs => [.shp (fs.map fun f => (f.1, jn (f.2.flatMap (piC b d))))]
    | c => [c])
def putF (b : Bd) (d : Nat) (ks : List Ch) : List Ch := jn (ks.flatMap (piC b d))
/-- a kind that may be put into -/
def PutOk (b : Bd) (D : Nat) : Nat → List Ch → Prop
  | 0, ks => (ks.length ≤ 1000 ∧ (ks.flatMap (piC b 0)).length ≤ 60 ∧ ∀ c ∈ ks.flatMap (piC b 0), TC D c ∧ c.sh.length ≤ 1000000) ∧ ∀ k ∈ ks, (match k with
    | .ltr x => ∃ ls, (x, ls) ∈ b
    | .box _ _ => False
    | .shp _ => False
    | _ => True)
  | d + 1, ks => (ks.length ≤ 1000 ∧ (ks.flatMap (piC b (d + 1))).length ≤ 60 ∧ ∀ c ∈ ks.flatMap (piC b (d + 1)), TC D c ∧ c.sh.length ≤ 1000000) ∧ ∀ k ∈ ks, (match k with
    | .ltr x => ∃ ls, (x, ls) ∈ b
    | .box _ ls => PutOk b D d ls
    | .shp fs => fs.length ≤ 1000 ∧ ∀ f ∈ fs, PutOk b D d f.2
    | _ => True)
theorem PutOk.fin {b : Bd} {D d : Nat} {ks : List Ch} (h : PutOk b D d ks) : ks.length ≤ 1000 ∧ (ks.flatMap (piC b d)).length ≤ 60 ∧ ∀ c ∈ ks.flatMap (piC b d), TC D c ∧ c.sh.length ≤ 1000000 := by
  cases d <;> exact h.1
/-- a dict of kinds by letters, whatever the store grows to -/
def BV (st : Store) (bv : Val) (b : Bd) : Prop := ∀ x ks, (x, ks) ∈ b → ∀ s, Gr st s → ixV s bv (.str x) = some (kdT ks)
theorem BV.mono {st s : Store} {bv : Val} {b : Bd} (h : BV st bv b) (g : Gr st s) : BV s bv b := fun x ks hx s2 g2 => h x ks hx s2 (g.trans g2)
theorem bv_loc {st : Store} {n : Nat} {b : Bd} (nd : (bks b).Nodup) (h : st[n]? = some (.dct (bks b) (bxs b))) : BV st (.loc n) b := fun x ks hx s g => by
  have := g.at (List.getElem?_eq_some_iff.mp h).1
  rw [h] at this
  simp only [ixV, this, keyOf, Option.bind]
  exact look_b nd hx
theorem bv_dct {st : Store} {b : Bd} (nd : (bks b).Nodup) : BV st (.dct (bks b) (bxs b)) b := fun x ks hx s g => by
  simp only [ixV, keyOf, Option.bind]
  exact look_b nd hx
abbrev Wq (st : Store) (ls : List (List Ch)) (os : List Ob) : Store := st ++ (.lst (ls.map kdT) :: os)
section
variable {st : Store} {ls : List (List Ch)} {os : List Ob}
theorem Wq.y : (Wq st ls os)[st.length]? = some (.lst (ls.map kdT)) := by simp [Wq]
theorem Wq.py {k : List Ch} (h : ls.length ≤ 1000) : mtV .append (.loc st.length) [kdT k] (Wq st ls os) = some (.non, Wq st (ls ++ [k]) os) := by
  have lt : (ls.map kdT).length < PySem.sizeLine := by rw [List.length_map, show PySem.sizeLine = 16777216 from rfl]; omega
  simp only [mtV, Wq.y, if_pos lt]
  simp [Wq]
theorem Wq.my : mtOk .append (.loc st.length) (Wq st ls os) = true := by simp only [mtOk, Wq.y]
theorem Wq.gr {s : Store} (h : Gr (Wq st ls os) s) : ∃ os', s = Wq st ls os' := by
  obtain ⟨x, rfl⟩ := h
  exact ⟨os ++ x, by simp [Wq]⟩
theorem Wq.g0 : Gr st (Wq st ls os) := ⟨_, rfl⟩
theorem Wq.it : itemsOf (Wq st ls os) (.loc st.length) = some (ls.map kdT, some st.length) := by simp only [itemsOf, Wq.y]
theorem Wq.it' (o' : Ob) : itemsOf (Wq st ls os ++ [o']) (.loc st.length) = some (ls.map kdT, some st.length) := by
  have e : Wq st ls os ++ [o'] = Wq st ls (os ++ [o']) := by simp [Wq]
  rw [e]; exact Wq.it
theorem Wq.ck' (o' : Ob) : ckOf (some st.length) (ls.map kdT) (Wq st ls os ++ [o']) = true := by
  have e : Wq st ls os ++ [o'] = Wq st ls (os ++ [o']) := by simp [Wq]
  rw [e]; exact ck_some Wq.y
end
theorem take_map {α β : Type} {f : α → β} {ks : List α} {j : Nat} {c : α} (h : ks[j]? = some c) : (ks.take j).map f ++ [f c] = (ks.take (j + 1)).map f := by
  rw [List.take_succ, h]; simp
/-! how great what is put in may be -/
def Pn : Nat → Nat
  | 0 => 98
  | d + 1 => 18 * Pn d + 150
theorem Pn_ge (d : Nat) : 98 ≤ Pn d := by
  induction d with
  | zero => exact Nat.le_refl _
  | succ d ih => simp only [Pn]; omega
theorem fm_len {f : Ch → List Ch} {n : Nat} : ∀ {ks : List Ch}, (∀ k ∈ ks, (f k).length ≤ n) → (ks.flatMap f).length ≤ ks.length * n
  | [], _ => by simp
  | k :: ks, h => by
    have h1 := h k (by simp)
    have h2 := fm_len (f := f) (n := n) (ks := ks) fun x hx => h x (by simp [hx])
    rw [List.flatMap_cons, List.length_append, List.length_cons, Nat.add_mul, Nat.one_mul]
    omega
theorem fm_ne {f : Ch → List Ch} {ks : List Ch} (h0 : ks ≠ []) (h : ∀ k ∈ ks, f k ≠ []) : ks.flatMap f ≠ [] := by
  cases ks with
  | nil => exact absurd rfl h0
  | cons k ks => intro z; rw [List.flatMap_cons, List.append_eq_nil_iff] at z; exact h k (by simp) z.1
structure GvOk (b : Bd) : Prop where
  nd : (bks b).Nodup
  all : ∀ q ∈ b, q.2.length ≤ 3 ∧ q.2 ≠ [] ∧ ∀ k ∈ q.2, TC 1 k ∧ k.sh.length ≤ 98
theorem TC.le {d : Nat} {c : Ch} (h : TC d c) : ∀ m, TC (d + m) c
  | 0 => h
  | m + 1 => (TC.le h m).up
theorem jn_ne {d : Nat} {cs : List Ch} (h : ∀ c ∈ cs, TC d c) (h0 : cs ≠ []) : jn cs ≠ [] := by
  cases cs with
  | nil => exact absurd rfl h0
  | cons c cs => exact List.ne_nil_of_mem (((jn_ok h).2 c).mpr (by simp))
theorem put_good {b : Bd} (hb : GvOk b) {L N : Txt → Prop} (hL : ∀ x, L x → Upw x ∧ x.length ≤ 8 ∧ ∃ ks, (x, ks) ∈ b) (hN : ∀ f, N f → Word f) : ∀ (d : Nat) (c : Ch), COk L N d c → (piC b d c).length ≤ 3 ∧ piC b d c ≠ [] ∧ ∀ k ∈ piC b d c, TC (d + 1) k ∧ k.sh.length ≤ Pn d := by
  have ltr : ∀ (d : Nat) (x : Txt), L x → (bndK b x).length ≤ 3 ∧ bndK b x ≠ [] ∧ ∀ k ∈ bndK b x, TC (d + 1) k ∧ k.sh.length ≤ Pn d := fun d x hx => by
    obtain ⟨_, _, ks, hm⟩ := hL x hx
    rw [bndK_of hb.nd hm]
    obtain ⟨h1, h2, h3⟩ := hb.all _ hm
    exact ⟨h1, h2, fun k hk => ⟨by rw [Nat.add_comm]; exact (h3 k hk).1.le d, Nat.le_trans (h3 k hk).2 (Pn_ge d)⟩⟩
  have one : ∀ (d : Nat) (c : Ch), TC (d + 1) c → c.sh.length ≤ Pn d → ([c] : List Ch).length ≤ 3 ∧ [c] ≠ [] ∧ ∀ k ∈ [c], TC (d + 1) k ∧ k.sh.length ≤ Pn d := fun d c h1 h2 => ⟨by simp, by simp, fun k hk => by simp at hk; subst hk; exact ⟨h1, h2⟩⟩
  intro d
  induction d with
  | zero =>
    intro c h
    cases c with
    | num => exact one 0 .num trivial (by decide)
    | txt => exact one 0 .txt trivial (by decide)
    | ltr x => exact ltr 0 x h
    | _ => exact h.elim
  | succ d ih =>
    intro c h
    have p98 := Pn_ge d
    have kd : ∀ {ks : List Ch}, (1 ≤ ks.length ∧ ks.length ≤ 3) → (∀ k ∈ ks, COk L N d k) → (∀ k ∈ jn (ks.flatMap (piC b d)), TC (d + 1) k) ∧ jn (ks.flatMap (piC b d)) ≠ [] ∧ (Ch.shk (jn (ks.flatMap (piC b d)))).length ≤ 9 * (Pn d + 3) := fun {ks} hl hk => by
      have el : ∀ k ∈ ks.flatMap (piC b d), TC (d + 1) k ∧ k.sh.length ≤ Pn d := fun k hk' => by
        obtain ⟨c, hc, hk'⟩ := List.mem_flatMap.mp hk'
        exact (ih c (hk c hc)).2.2 k hk'
      obtain ⟨_, jm⟩ := jn_ok (d := d + 1) fun c hc => (el c hc).1
      refine ⟨fun k hk' => (el k ((jm k).mp hk')).1, jn_ne (fun c hc => (el c hc).1) (fm_ne (fun z => by subst z; simp at hl) fun k hk' => (ih k (hk k hk')).2.1), ?_⟩
      refine shk_len ?_ fun k hk' => (el k ((jm k).mp hk')).2
      refine Nat.le_trans (jn_len _) (Nat.le_trans (fm_len fun k hk' => (ih k (hk k hk')).1) ?_)
      omega
    cases c with
    | num => exact one _ .num trivial (by simp only [Ch.sh, List.length_cons, List.length_nil, Pn]; omega)
    | txt => exact one _ .txt trivial (by simp only [Ch.sh, List.length_cons, List.length_nil, Pn]; omega)
    | ltr x => exact ltr _ x h
    | box bb ks =>
      obtain ⟨h1, h2, h3⟩ := kd h.1 h.2
      refine one _ _ ⟨h2, h1⟩ ?_
      have l : (bw bb).length ≤ 4 := by cases bb <;> exact Nat.le_of_ble_eq_true rfl
      have h3 : (joinT [32, 124, 32] (Ch.shs (jn (ks.flatMap (piC b d))))).length ≤ 9 * (Pn d + 3) := h3
      simp only [Ch.sh, Pn, List.length_append, List.length_cons, List.length_nil]
      omega
    | shp fs =>
      obtain ⟨hl, _, hn, hk⟩ := h
      refine one _ (.shp (fs.map fun f => (f.1, jn (f.2.flatMap (piC b d))))) ⟨fun z => by rw [List.map_eq_nil_iff] at z; subst z; simp at hl, fun f hf => ?_⟩ ?_
      · obtain ⟨g, hg, rfl⟩ := List.mem_map.mp hf
        obtain ⟨h1, h2, _⟩ := kd (hk g hg).1 (hk g hg).2
        exact ⟨hN _ (hn _ (List.mem_map.mpr ⟨g, hg, rfl⟩)), h2, h1⟩
      · have := joinT_le (sep := [44, 32]) (B := 10 + 9 * (Pn d + 3)) (ts := Ch.shf (fs.map fun f => (f.1, jn (f.2.flatMap (piC b d))))) fun t ht => by
          rw [Ch.shf_map, List.map_map] at ht
          obtain ⟨g, hg, rfl⟩ := List.mem_map.mp ht
          obtain ⟨_, _, h3⟩ := kd (hk g hg).1 (hk g hg).2
          have l8 := (hN _ (hn _ (List.mem_map.mpr ⟨g, hg, rfl⟩))).len
          have h3 : (joinT [32, 124, 32] (Ch.shs (jn (g.2.flatMap (piC b d))))).length ≤ 9 * (Pn d + 3) := h3
          simp only [Function.comp, Ch.shd, List.length_append, List.length_cons, List.length_nil]
          omega
        rw [Ch.shf_map, List.length_map, List.length_map] at this
        have l2 := Nat.mul_le_mul_right (10 + 9 * (Pn d + 3) + [44, 32].length) hl.2
        rw [← Ch.shf_map] at this
        simp only [Ch.sh, Pn, List.length_append, List.length_cons, List.length_nil] at this l2 ⊢
        omega
    | _ => exact h.elim
theorem put_okK {b : Bd} (hb : GvOk b) {L N : Txt → Prop} (hL : ∀ x, L x → Upw x ∧ x.length ≤ 8 ∧ ∃ ks, (x, ks) ∈ b) (hN : ∀ f, N f → Word f) : ∀ (d : Nat), d ≤ 2 → ∀ ks, KOk L N d ks → PutOk b 3 d ks := by
  have fin : ∀ d, d ≤ 2 → ∀ ks, KOk L N d ks → ks.length ≤ 1000 ∧ (ks.flatMap (piC b d)).length ≤ 60 ∧ ∀ c ∈ ks.flatMap (piC b d), TC 3 c ∧ c.sh.length ≤ 1000000 := fun d hd ks hk => by
    have g := put_good hb hL hN d
    refine ⟨by have := hk.1.2; omega, ?_, fun c hc => ?_⟩
    · have := fm_len (f := piC b d) fun k hk' => (g k (hk.2 k hk')).1
      have := hk.1.2
      omega
    · obtain ⟨k, hk', hc⟩ := List.mem_flatMap.mp hc
      obtain ⟨t, l⟩ := (g k (hk.2 k hk')).2.2 c hc
      obtain rfl | rfl | rfl : d = 0 ∨ d = 1 ∨ d = 2 := by omega
      · exact ⟨t.le 2, Nat.le_trans l (by decide)⟩
      · exact ⟨t.le 1, Nat.le_trans l (by decide)⟩
      · exact ⟨t, Nat.le_trans l (by decide)⟩
  intro d
  induction d with
  | zero =>
    intro hd ks hk
    refine ⟨fin 0 hd ks hk, fun k hk' => ?_⟩
    have := hk.2 k hk'
    cases k with
    | ltr x => exact (hL x this).2.2
    | box _ _ => exact this
    | shp _ => exact this
    | _ => trivial
  | succ d ih =>
    intro hd ks hk
    refine ⟨fin _ hd ks hk, fun k hk' => ?_⟩
    have := hk.2 k hk'
    cases k with
    | ltr x => exact (hL x this).2.2
    | box _ ls => exact ih (by omega) ls this
    | shp fs => exact ⟨by have := this.1.2; omega, fun f hf => ih (by omega) f.2 (this.2.2.2 f hf)⟩
    | _ => trivial
end Mi
namespace Mi
local macro_rules | `(tactic| array_mem_dec) => `(tactic| repeat (first | (with_reducible refine t_seq ?_) | (with_reducible refine t_skip ?_) | (with_reducible refine t_asg ?_) | (with_reducible refine t_ret ?_) | (with_reducible refine t_expr ?_) | (with_reducible refine t_put ?_) | (with_reducible refine t_ite ?_) | (with_reducible refine t_for ?_) | (with_reducible refine t_asgT ?_) | ((with_reducible apply v_var); rfl) | ((with_reducible apply b_var); rfl) | ((with_reducible apply i_var); rfl) | (with_reducible refine v_lit ?_) | (with_reducible refine v_ix ?_) | (with_reducible refine v_bin ?_) | (with_reducible refine v_cmp ?_) | (with_reducible refine v_call ?_) | (with_reducible refine v_tup ?_) | (with_reducible refine v_lst ?_) | (with_reducible refine v_new ?_) | (with_reducible refine v_fn ?_) | (with_reducible refine v_isi ?_) | (with_reducible refine v_mt ?_) | (with_reducible refine v_and ?_) | (with_reducible refine v_or ?_) | (with_reducible refine v_not ?_) | (with_reducible refine v_ite ?_) | (with_reducible refine v_neg ?_) | (with_reducible refine v_chain ?_) | (with_reducible refine v_isN ?_) | (with_reducible refine v_isB ?_) | (with_reducible refine v_lc ?_) | (with_reducible refine a_cons ?_) | (with_reducible refine a_nil ?_) | (with_reducible refine b_cmp ?_) | (with_reducible refine b_and ?_) | (with_reducible refine b_or ?_) | (with_reducible refine b_not ?_) | (with_reducible refine b_call ?_) | (with_reducible refine b_isi ?_) | (with_reducible refine b_lit ?_) | (with_reducible refine b_isN ?_) | (with_reducible refine b_isB ?_) | (with_reducible refine b_chain ?_) | (with_reducible refine b_mt ?_) | (with_reducible refine b_fn ?_) | (with_reducible refine i_rng ?_) | (with_reducible refine i_ix ?_) | (with_reducible refine i_fn ?_) | (with_reducible refine i_call ?_) | (with_reducible refine i_bin ?_) | (with_reducible refine i_lst ?_) | (with_reducible refine i_sortK ?_) | (with_reducible refine i_tup ?_) | (with_reducible refine i_lc ?_) | (with_reducible refine v_dcpy ?_) | (with_reducible refine v_lnew ?_) | refine ⟨Nat.le_of_ble_eq_true rfl, ?_⟩ | refine ⟨_, rfl, ?_⟩))
/-! kinds opened -/
def opnC (b : Bd) (c : Ch) : List Ch := match ltrOf c with
  | some x => leftP b x (headsC b c)
  | none => [c]
def opnF (b : Bd) (ks : List Ch) : List Ch := jn (ks.flatMap (opnC b))
theorem leftP_len (b : Bd) (x : Txt) (H : List Txt) : (leftP b x H).length ≤ (bndK b x).length := List.length_filter_le _ _
structure OpOk (b : Bd) (D : Nat) (ks : List Ch) : Prop where
  len : ks.length ≤ 1000
  fl : (ks.flatMap (opnC b)).length ≤ 60
  tc : ∀ c ∈ ks.flatMap (opnC b), TC D c ∧ c.sh.length ≤ 1000000
  lo : ∀ c ∈ ks, LOk b c
theorem headsC_ltr {b : Bd} {x : Txt} {ks : List Ch} (nd : (bks b).Nodup) (h : (x, ks) ∈ b) : headsC b (.ltr x) = Ch.heads ks := by
  simp only [headsC, hsx_of nd h]
section
variable {p : Prg} (hk : p.fns[0]? = some d_shown_kind) (hs : p.fns[1]? = some d_shown_choice) (hj : p.fns[2]? = some d_joined) (hc : p.fns[3]? = some d_head_of_choice) (hh : p.fns[4]? = some d_heads_of)  
end
section
variable {p : Prg} {c : Cst} (hcc : Cok c) (hk : p.fns[19]? = some d_law_told) (hs : p.fns[20]? = some d_law_told_choice) (hj : p.fns[21]? = some d_law_join) (hc : p.fns[15]? = some d_law_head_of) (hh : p.fns[16]? = some d_law_heads_of) 
include hcc hc hh in
theorem lheads_any (m n : Nat) (st : Store) (b : Bd) (hb : BOk c n b) (ch : Ch) (x : Txt) (hx : ltrOf ch = some x) (ho : LOk b ch) :
    Ret (callN p (m + 2) 16 [ch.v, .dct (bks b) (bxs b)] st) fun v s => v = .tup ((headsC b ch).map .str) ∧ s = st := by
  obtain ⟨ks, hm⟩ := ho.l x hx
  cases ch with
  | ltr y =>
    simp only [ltrOf, Option.some.injEq] at hx
    subst hx
    rw [headsC_ltr hb.nd hm]
    exact heads_ok hcc hc hh m n st b hb y ks hm
  | cut y hs =>
    refine call_of hh rfl ?_
    simp only [d_law_heads_of, List.map_cons, List.map_nil, List.length_cons, List.length_nil, List.cons_append, List.nil_append, Nat.reduceAdd, Nat.reduceSub, Nat.zero_add, Nat.add_zero, Nat.sub_self, Nat.sub_zero, List.replicate]
    simp only [Ch.v]
    array_mem_dec
    refine ⟨fun _ => ?_, nofun⟩
    array_mem_dec
    exact ⟨rfl, rfl⟩
  | _ => simp [ltrOf] at hx
end
end Mi
namespace Mi
local macro_rules | `(tactic| array_mem_dec) => `(tactic| repeat (first | (with_reducible refine t_seq ?_) | (with_reducible refine t_skip ?_) | (with_reducible refine t_asg ?_) | (with_reducible refine t_ret ?_) | (with_reducible refine t_expr ?_) | (with_reducible refine t_put ?_) | (with_reducible refine t_ite ?_) | (with_reducible refine t_for ?_) | (with_reducible refine t_asgT ?_) | ((with_reducible apply v_var); rfl) | ((with_reducible apply b_var); rfl) | ((with_reducible apply i_var); rfl) | (with_reducible refine v_lit ?_) | (with_reducible refine v_ix ?_) | (with_reducible refine v_bin ?_) | (with_reducible refine v_cmp ?_) | (with_reducible refine v_call ?_) | (with_reducible refine v_tup ?_) | (with_reducible refine v_lst ?_) | (with_reducible refine v_new ?_) | (with_reducible refine v_fn ?_) | (with_reducible refine v_isi ?_) | (with_reducible refine v_mt ?_) | (with_reducible refine v_and ?_) | (with_reducible refine v_or ?_) | (with_reducible refine v_not ?_) | (with_reducible refine v_ite ?_) | (with_reducible refine v_neg ?_) | (with_reducible refine v_chain ?_) | (with_reducible refine v_isN ?_) | (with_reducible refine v_isB ?_) | (with_reducible refine v_lc ?_) | (with_reducible refine a_cons ?_) | (with_reducible refine a_nil ?_) | (with_reducible refine b_cmp ?_) | (with_reducible refine b_and ?_) | (with_reducible refine b_or ?_) | (with_reducible refine b_not ?_) | (with_reducible refine b_call ?_) | (with_reducible refine b_isi ?_) | (with_reducible refine b_lit ?_) | (with_reducible refine b_isN ?_) | (with_reducible refine b_isB ?_) | (with_reducible refine b_chain ?_) | (with_reducible refine b_mt ?_) | (with_reducible refine b_fn ?_) | (with_reducible refine i_rng ?_) | (with_reducible refine i_ix ?_) | (with_reducible refine i_fn ?_) | (with_reducible refine i_call ?_) | (with_reducible refine i_bin ?_) | (with_reducible refine i_lst ?_) | (with_reducible refine i_sortK ?_) | (with_reducible refine i_tup ?_) | (with_reducible refine i_lc ?_) | (with_reducible refine v_dcpy ?_) | (with_reducible refine v_lnew ?_) | refine ⟨Nat.le_of_ble_eq_true rfl, ?_⟩ | refine ⟨_, rfl, ?_⟩))
/-! the law's own narrowing -/
theorem eq_bl {st : Store} {a b : Bool} : cmpV st .eq (.bl a) (.bl b) = some (a == b) := rfl
def fOf (is : Bool) (w : Txt) (yes : Bool) (h : Txt) : Bool := ansB is w h == yes
theorem fOf_true (is : Bool) (w : Txt) : fOf is w true = ansB is w := by funext h; simp [fOf]
theorem fOf_false (is : Bool) (w : Txt) : fOf is w false = fun h => !ansB is w h := by funext h; simp [fOf]
abbrev Wc (st : Store) (cs : List Ch) : Store := st ++ [.lst (Ch.vs cs)]
section
variable {st : Store} {cs : List Ch}
theorem Wc.y : (Wc st cs)[st.length]? = some (.lst (Ch.vs cs)) := by simp [Wc]
theorem Wc.py {k : Ch} (h : cs.length ≤ 1000) : mtV .append (.loc st.length) [k.v] (Wc st cs) = some (.non, Wc st (cs ++ [k])) := by
  have lt : (Ch.vs cs).length < PySem.sizeLine := by rw [Ch.vs_len, show PySem.sizeLine = 16777216 from rfl]; omega
  simp only [mtV, Wc.y, if_pos lt]
  simp [Wc, Ch.vs_map]
theorem Wc.my : mtOk .append (.loc st.length) (Wc st cs) = true := by simp only [mtOk, Wc.y]
end
/-- bounds that the law reads -/
structure LbOk (b : Bd) (n : Nat) : Prop where
  nd : (bks b).Nodup
  hd : ∀ q ∈ b, Ch.heads q.2 ≠ [] ∧ (Ch.heads q.2).length ≤ n ∧ ∀ h ∈ Ch.heads q.2, h.length ≤ 300
section
variable {p : Prg} (hc : p.fns[15]? = some d_law_head_of) (hh : p.fns[16]? = some d_law_heads_of) (ha : p.fns[17]? = some d_law_answers) (hsd : p.fns[18]? = some d_law_side)
include hc hh ha hsd in
theorem side_ok (m : Nat) (b : Bd) (hb : LbOk b 1000) (hhds : ∀ ch x, ltrOf ch = some x → LOk b ch → ∀ s, Ret (callN p (m + 2) 16 [ch.v, .dct (bks b) (bxs b)] s) fun v s' => v = .tup ((headsC b ch).map .str) ∧ s' = s)
    (is yes : Bool) (w : Txt) (ks : List Ch) (kv : Val) (hkv : ∀ s, itemsOf s kv = some (Ch.vs ks, none)) (hl : ks.length ≤ 60) (ho : ∀ c ∈ ks, LOk b c) (hhl : ∀ c ∈ ks, c.hd.length ≤ 300) (hcl : ∀ x hs, Ch.cut x hs ∈ ks → ∀ h ∈ hs, h.length ≤ 300) (st : Store) :
    Ret (callN p (m + 3) 18 [kv, .dct (bks b) (bxs b), askV is w, .bl yes] st) fun v s => v = kdT (ks.flatMap (sideC b (fOf is w yes))) ∧ Gr st s := by
  refine call_of hsd rfl ?_
  simp only [d_law_side, List.map_cons, List.map_nil, List.length_cons, List.length_nil, List.cons_append, List.nil_append, Nat.reduceAdd, Nat.reduceSub, Nat.zero_add, Nat.add_zero, Nat.sub_self, Nat.sub_zero, List.replicate]
  array_mem_dec
  refine ⟨_, hkv _, ?_⟩
  rw [ckN, Ch.vs_map]
  let f := fOf is w yes
  refine for_map Ch.v (fun k η s => (∃ y1 y2 y3, η = [some kv, some (.dct (bks b) (bxs b)), some (askV is w), some (.bl yes), some (.loc st.length), y1, y2, y3, none]) ∧ s = Wc st ((ks.take k).flatMap (sideC b f)))
    ⟨⟨none, none, none, rfl⟩, by simp [Wc, Ch.vs]⟩ ?_ ?_
  · rintro j ch hj η s ⟨⟨y1, y2, y3, rfl⟩, rfl⟩
    have hmem := List.mem_of_getElem? hj
    have lf : ((ks.take j).flatMap (sideC b f)).length ≤ 1000 := by
      have := fm_len (f := sideC b f) (n := 1) (ks := ks.take j) fun k _ => sideC_len b f k
      have : (ks.take j).length ≤ ks.length := by simp; omega
      omega
    have more : (ks.take (j + 1)).flatMap (sideC b f) = (ks.take j).flatMap (sideC b f) ++ sideC b f ch := by
      rw [List.take_succ, hj, List.flatMap_append]; simp
    refine ⟨_, rfl, ?_⟩
    -- a letter, a cut
    have lt : ∀ x, ltrOf ch = some x → ixV (Wc st ((ks.take j).flatMap (sideC b f))) ch.v (.int 1) = some (.str x) ∧ (∃ ls, (x, ls) ∈ b) := fun x hx => by
      refine ⟨?_, (ho ch hmem).l x hx⟩
      cases ch with
      | ltr y => simp only [ltrOf, Option.some.injEq] at hx; subst hx; rfl
      | cut y hs => simp only [ltrOf, Option.some.injEq] at hx; subst hx; rfl
      | _ => simp [ltrOf] at hx
    have main : ∀ (x : Txt) (y2 y3 : Option Val), ltrOf ch = some x → sideC b f ch = cutTo x ((headsC b ch).filter f) (hsx b x) → (∀ h ∈ headsC b ch, h.length ≤ 300) → (headsC b ch).length ≤ 1000 →
        FlP (exec ⟨callN p (m + 2), p.gs⟩ (.seq (.asg 6 (.call 16 (.cons (.tup (.cons (.lit (.str [108, 101, 116, 116, 101, 114])) (.cons (.ix (.var 5) (.lit (.int 1))) .nil))) (.cons (.var 1) .nil))))
          (.seq (.asg 7 (.fn .tuple (.cons (.lc [8] (.nm 8) (.call 16 (.cons (.var 5) (.cons (.var 1) .nil))) (.cmp .eq (.call 17 (.cons (.var 8) (.cons (.var 2) .nil))) (.var 3)) (.var 8)) .nil)))
          (.seq (.ite (.cmp .eq (.var 7) (.var 6))
            (.seq (.expr (.mt .append (.var 4) (.cons (.tup (.cons (.lit (.str [108, 101, 116, 116, 101, 114])) (.cons (.ix (.var 5) (.lit (.int 1))) .nil))) .nil))) .skip)
            (.seq (.ite (.cmp .gt (.fn .len (.cons (.var 7) .nil)) (.lit (.int 0)))
              (.seq (.expr (.mt .append (.var 4) (.cons (.tup (.cons (.lit (.str [99, 117, 116])) (.cons (.ix (.var 5) (.lit (.int 1))) (.cons (.var 7) .nil)))) .nil))) .skip)
              .skip) .skip)) .skip)))
          [some kv, some (.dct (bks b) (bxs b)), some (askV is w), some (.bl yes), some (.loc st.length), some ch.v, y2, y3, none] (Wc st ((ks.take j).flatMap (sideC b f))))
        { nx := fun η s => (∃ y1 y2 y3, η = [some kv, some (.dct (bks b) (bxs b)), some (askV is w), some (.bl yes), some (.loc st.length), y1, y2, y3, none]) ∧ s = Wc st ((ks.take (j + 1)).flatMap (sideC b f)), rt := fun _ _ => False } := fun x y2 y3 hx hsd' hh3 hh4 => by
      obtain ⟨a1, ls, hm⟩ := lt x hx
      have h1 := hhds (.ltr x) x rfl ⟨(fun y e => by simp only [ltrOf, Option.some.injEq] at e; subst e; exact ⟨ls, hm⟩), (fun _ _ e => by cases e), (fun _ e => by cases e)⟩ (Wc st ((ks.take j).flatMap (sideC b f)))
      have h2 := hhds ch x hx (ho ch hmem) (Wc st ((ks.take j).flatMap (sideC b f)))
      rw [headsC_ltr hb.nd hm] at h1
      have hne := (hb.hd _ hm).1
      have hne : Ch.heads ls ≠ [] := hne
      rw [more, hsd', hsx_of hb.nd hm]
      array_mem_dec
      refine ⟨_, a1, ?_⟩
      array_mem_dec
      refine h1.imp fun v s ⟨e1, e2⟩ => ?_
      subst e1 e2
      array_mem_dec
      refine h2.imp fun v s ⟨e1, e2⟩ => ?_
      subst e1 e2
      refine ⟨_, rfl, ?_⟩
      rw [ckN]
      refine lc_filt Val.str Val.str f _ _ (fun h hh' => ⟨_, rfl, ?_, fun _ => ?_⟩) ?_ ?_
      · array_mem_dec
        refine (answers_ok ha (m + 1) _ is w h (hh3 h hh')).imp fun v s ⟨e1, e2⟩ => ?_
        subst e1 e2
        array_mem_dec
        exact ⟨rfl, rfl⟩
      · array_mem_dec
        exact ⟨rfl, rfl⟩
      · simp only [List.length_nil, show PySem.sizeLine = 16777216 from rfl]
        omega
      array_mem_dec
      refine ⟨_, eq_tups, ?_⟩
      have e0 : ([] ++ ((headsC b ch).filter f).map Val.str) = ((headsC b ch).filter f).map Val.str := List.nil_append _
      refine ⟨fun q => ?_, fun q => ?_⟩
      · have q : (headsC b ch).filter f = Ch.heads ls := of_decide_eq_true q
        array_mem_dec
        refine ⟨Wc.my, ?_⟩
        array_mem_dec
        refine ⟨_, a1, ?_⟩
        array_mem_dec
        refine ⟨_, Wc.py (k := .ltr x) lf, ?_⟩
        array_mem_dec
        refine ⟨⟨_, _, _, rfl⟩, ?_⟩
        unfold cutTo
        rw [if_neg (by rw [q]; exact hne), if_pos q]
      · have q : (headsC b ch).filter f ≠ Ch.heads ls := of_decide_eq_false q
        array_mem_dec
        refine ⟨fun q2 => ?_, fun q2 => ?_⟩
        · have q2 : (0 : Int) < (((headsC b ch).filter f).map Val.str).length := of_decide_eq_true q2
          array_mem_dec
          refine ⟨Wc.my, ?_⟩
          array_mem_dec
          refine ⟨_, a1, ?_⟩
          array_mem_dec
          refine ⟨_, Wc.py (k := .cut x ((headsC b ch).filter f)) lf, ?_⟩
          array_mem_dec
          refine ⟨⟨_, _, _, rfl⟩, ?_⟩
          unfold cutTo
          rw [if_neg (fun z => by rw [z] at q2; simp at q2), if_neg q]
        · have q2 : ¬ (0 : Int) < (((headsC b ch).filter f).map Val.str).length := of_decide_eq_false q2
          array_mem_dec
          refine ⟨⟨_, _, _, rfl⟩, ?_⟩
          unfold cutTo
          have z : (headsC b ch).filter f = [] := by
            cases hz : (headsC b ch).filter f with
            | nil => rfl
            | cons a r => rw [hz] at q2; simp at q2
          rw [if_pos z, List.append_nil]
    have plain : ltrOf ch = none → sideC b f ch = (if f ch.hd then [ch] else []) → ∀ (y2 y3 : Option Val),
        FlP (exec ⟨callN p (m + 2), p.gs⟩ (.seq (.ite (.cmp .eq (.call 17 (.cons (.call 15 (.cons (.var 5) .nil)) (.cons (.var 2) .nil))) (.var 3)) (.seq (.expr (.mt .append (.var 4) (.cons (.var 5) .nil))) .skip) .skip) .skip)
          [some kv, some (.dct (bks b) (bxs b)), some (askV is w), some (.bl yes), some (.loc st.length), some ch.v, y2, y3, none] (Wc st ((ks.take j).flatMap (sideC b f))))
        { nx := fun η s => (∃ y1 y2 y3, η = [some kv, some (.dct (bks b) (bxs b)), some (askV is w), some (.bl yes), some (.loc st.length), y1, y2, y3, none]) ∧ s = Wc st ((ks.take (j + 1)).flatMap (sideC b f)), rt := fun _ _ => False } := fun hx hsd' y2 y3 => by
      rw [more, hsd']
      array_mem_dec
      refine (head_ok hc (m + 1) _ ch (ho ch hmem).s).imp fun v s ⟨e1, e2⟩ => ?_
      subst e1 e2
      array_mem_dec
      refine (answers_ok ha (m + 1) _ is w ch.hd (hhl ch hmem)).imp fun v s ⟨e1, e2⟩ => ?_
      subst e1 e2
      array_mem_dec
      refine ⟨fun q => ?_, fun q => ?_⟩
      · have q : f ch.hd = true := q
        array_mem_dec
        refine ⟨Wc.my, ?_⟩
        array_mem_dec
        refine ⟨_, Wc.py (k := ch) lf, ?_⟩
        array_mem_dec
        exact ⟨⟨_, _, _, rfl⟩, by rw [if_pos q]⟩
      · have q : f ch.hd = false := q
        array_mem_dec
        exact ⟨⟨_, _, _, rfl⟩, by rw [if_neg (by rw [q]; decide), List.append_nil]⟩
    have up : ∀ {f0 : Fl} {D1 D2 : De}, FlP f0 D1 → (∀ η s, D1.nx η s → D2.nx η s) → (∀ v s, ¬ D1.rt v s) → (∀ η s, ¬ D1.bk η s) → (∀ η s, ¬ D1.ct η s) → FlP f0 D2 := fun {f0 D1 D2} h h1 h2 h3 h4 =>
      fl_imp h h1 (fun v s z => (h2 v s z).elim) (fun η s z => (h3 η s z).elim) (fun η s z => (h4 η s z).elim)
    cases ch with
    | ltr x =>
      obtain ⟨_, ls, hm⟩ := lt x rfl
      have m1 := fun y2 y3 => main x y2 y3 rfl (by simp only [sideC, headsC]) (by rw [headsC_ltr hb.nd hm]; exact (hb.hd _ hm).2.2) (by rw [headsC_ltr hb.nd hm]; exact (hb.hd _ hm).2.1)
      simp only [Ch.v] at m1 ⊢
      array_mem_dec
      refine ⟨nofun, fun _ => ?_⟩
      array_mem_dec
      refine ⟨fun _ => ?_, nofun⟩
      exact up (m1 _ _) (fun η s h => t_skip h) (fun _ _ h => h) (fun _ _ h => h) (fun _ _ h => h)
    | cut x hs =>
      have m1 := fun y2 y3 => main x y2 y3 rfl (by simp only [sideC, headsC]) (hcl x hs hmem) ((ho _ hmem).h x hs rfl)
      simp only [Ch.v] at m1 ⊢
      array_mem_dec
      refine ⟨fun _ => ?_, nofun⟩
      array_mem_dec
      refine ⟨fun _ => ?_, nofun⟩
      exact up (m1 _ _) (fun η s h => t_skip h) (fun _ _ h => h) (fun _ _ h => h) (fun _ _ h => h)
    | box bb ls =>
      have m1 := plain rfl rfl
      cases bb <;> simp only [Ch.v] at m1 ⊢
      all_goals
        array_mem_dec
        refine ⟨fun _ => ?_, nofun⟩
        array_mem_dec
        refine ⟨nofun, fun _ => ?_⟩
        exact up (m1 _ _) (fun η s h => t_skip h) (fun _ _ h => h) (fun _ _ h => h) (fun _ _ h => h)
    | shp fs =>
      have m1 := plain rfl rfl
      simp only [Ch.v] at m1 ⊢
      array_mem_dec
      refine ⟨fun _ => ?_, nofun⟩
      array_mem_dec
      refine ⟨nofun, fun _ => ?_⟩
      exact up (m1 _ _) (fun η s h => t_skip h) (fun _ _ h => h) (fun _ _ h => h) (fun _ _ h => h)
    | num =>
      have m1 := plain rfl rfl
      simp only [Ch.v] at m1 ⊢
      array_mem_dec
      refine ⟨fun _ => ?_, nofun⟩
      array_mem_dec
      refine ⟨nofun, fun _ => ?_⟩
      exact up (m1 _ _) (fun η s h => t_skip h) (fun _ _ h => h) (fun _ _ h => h) (fun _ _ h => h)
    | txt =>
      have m1 := plain rfl rfl
      simp only [Ch.v] at m1 ⊢
      array_mem_dec
      refine ⟨fun _ => ?_, nofun⟩
      array_mem_dec
      refine ⟨nofun, fun _ => ?_⟩
      exact up (m1 _ _) (fun η s h => t_skip h) (fun _ _ h => h) (fun _ _ h => h) (fun _ _ h => h)
    | som bb =>
      have m1 := plain rfl rfl
      simp only [Ch.v] at m1 ⊢
      array_mem_dec
      refine ⟨fun _ => ?_, nofun⟩
      array_mem_dec
      refine ⟨nofun, fun _ => ?_⟩
      exact up (m1 _ _) (fun η s h => t_skip h) (fun _ _ h => h) (fun _ _ h => h) (fun _ _ h => h)
    | wit ff =>
      have m1 := plain rfl rfl
      simp only [Ch.v] at m1 ⊢
      array_mem_dec
      refine ⟨fun _ => ?_, nofun⟩
      array_mem_dec
      refine ⟨nofun, fun _ => ?_⟩
      exact up (m1 _ _) (fun η s h => t_skip h) (fun _ _ h => h) (fun _ _ h => h) (fun _ _ h => h)
  · rintro η s ⟨⟨y1, y2, y3, rfl⟩, rfl⟩
    rw [List.take_length]
    array_mem_dec
    refine ⟨kdT (ks.flatMap (sideC b f)), ?_, rfl, ⟨_, rfl⟩⟩
    simp only [fnV, tupleV, asL, Wc.y, Option.map]
end
end Mi
namespace Mi
local macro_rules | `(tactic| array_mem_dec) => `(tactic| repeat (first | (with_reducible refine t_seq ?_) | (with_reducible refine t_skip ?_) | (with_reducible refine t_asg ?_) | (with_reducible refine t_ret ?_) | (with_reducible refine t_expr ?_) | (with_reducible refine t_put ?_) | (with_reducible refine t_ite ?_) | (with_reducible refine t_for ?_) | (with_reducible refine t_asgT ?_) | ((with_reducible apply v_var); rfl) | ((with_reducible apply b_var); rfl) | ((with_reducible apply i_var); rfl) | (with_reducible refine v_lit ?_) | (with_reducible refine v_ix ?_) | (with_reducible refine v_bin ?_) | (with_reducible refine v_cmp ?_) | (with_reducible refine v_call ?_) | (with_reducible refine v_tup ?_) | (with_reducible refine v_lst ?_) | (with_reducible refine v_new ?_) | (with_reducible refine v_fn ?_) | (with_reducible refine v_isi ?_) | (with_reducible refine v_mt ?_) | (with_reducible refine v_and ?_) | (with_reducible refine v_or ?_) | (with_reducible refine v_not ?_) | (with_reducible refine v_ite ?_) | (with_reducible refine v_neg ?_) | (with_reducible refine v_chain ?_) | (with_reducible refine v_isN ?_) | (with_reducible refine v_isB ?_) | (with_reducible refine v_lc ?_) | (with_reducible refine a_cons ?_) | (with_reducible refine a_nil ?_) | (with_reducible refine b_cmp ?_) | (with_reducible refine b_and ?_) | (with_reducible refine b_or ?_) | (with_reducible refine b_not ?_) | (with_reducible refine b_call ?_) | (with_reducible refine b_isi ?_) | (with_reducible refine b_lit ?_) | (with_reducible refine b_isN ?_) | (with_reducible refine b_isB ?_) | (with_reducible refine b_chain ?_) | (with_reducible refine b_mt ?_) | (with_reducible refine b_fn ?_) | (with_reducible refine i_rng ?_) | (with_reducible refine i_ix ?_) | (with_reducible refine i_fn ?_) | (with_reducible refine i_call ?_) | (with_reducible refine i_bin ?_) | (with_reducible refine i_lst ?_) | (with_reducible refine i_sortK ?_) | (with_reducible refine i_tup ?_) | (with_reducible refine i_lc ?_) | (with_reducible refine v_dcpy ?_) | (with_reducible refine v_lnew ?_) | refine ⟨Nat.le_of_ble_eq_true rfl, ?_⟩ | refine ⟨_, rfl, ?_⟩))
theorem ne_self {st : Store} {xs : List Val} (h : ∀ x ∈ xs, Dt 59 x) : cmpV st .ne (.tup xs) (.tup xs) = some false := by
  simp only [cmpV, neV, view, eqz_self h, Option.map, beq_self_eq_true, Bool.and_true, Bool.not_true]
def SH : List Ch := [.shp [([97, 98], [.num])], .shp [([115, 104, 97, 112, 101, 115], [.txt])]]
theorem SH_all {P : Ch → Prop} (h1 : P (.shp [([97, 98], [.num])])) (h2 : P (.shp [([115, 104, 97, 112, 101, 115], [.txt])])) : ∀ c ∈ SH, P c := by
  intro c hc
  simp only [SH, List.mem_cons, List.not_mem_nil, or_false] at hc
  rcases hc with rfl | rfl
  · exact h1
  · exact h2
theorem sh_word {t : Txt} (h : t ≠ [] ∧ t.length ≤ 8 ∧ ∀ x ∈ t, 97 ≤ x ∧ x ≤ 122) : Word t := ⟨h.1, h.2.1, h.2.2⟩
theorem SH_tc : ∀ c ∈ SH, TC 2 c ∧ c.sh.length ≤ 1000 := by
  refine SH_all ⟨⟨by simp, fun f hf => ?_⟩, by decide⟩ ⟨⟨by simp, fun f hf => ?_⟩, by decide⟩
  · simp only [List.mem_singleton] at hf; subst hf
    exact ⟨sh_word (by decide), by simp, fun k hk => by simp only [List.mem_singleton] at hk; subst hk; trivial⟩
  · simp only [List.mem_singleton] at hf; subst hf
    exact ⟨sh_word (by decide), by simp, fun k hk => by simp only [List.mem_singleton] at hk; subst hk; trivial⟩
theorem SH_lo : ∀ c ∈ SH, LOk [] c := by
  refine SH_all ⟨(fun x e => by simp [ltrOf] at e), (fun _ _ e => by cases e), fun fs e => ?_⟩ ⟨(fun x e => by simp [ltrOf] at e), (fun _ _ e => by cases e), fun fs e => ?_⟩
  · cases e; exact ⟨by decide, by decide⟩
  · cases e; exact ⟨by decide, by decide⟩
theorem SH_n : ∀ c ∈ SH, NOk [] 2 c := by
  have tc := SH_tc
  refine SH_all ⟨fun f c' hc' => ?_, by decide, fun fs e => ?_, (fun _ e => by cases e), (fun _ _ e => by cases e)⟩ ⟨fun f c' hc' => ?_, by decide, fun fs e => ?_, (fun _ e => by cases e), (fun _ _ e => by cases e)⟩
  · simp only [sideC] at hc'
    split at hc'
    · simp only [List.mem_singleton] at hc'; subst hc'; exact tc _ (by simp [SH])
    · cases hc'
  · cases e; exact ⟨by decide, by decide⟩
  · simp only [sideC] at hc'
    split at hc'
    · simp only [List.mem_singleton] at hc'; subst hc'; exact tc _ (by simp [SH])
    · cases hc'
  · cases e; exact ⟨by decide, by decide⟩
theorem flat_map {b : Bd} {f : Txt → Bool} (ks : List Ch) : (ks.map (sideC b f)).flatten = ks.flatMap (sideC b f) := List.flatMap_def.symm
/-- both ways of narrowing tell the same -/
theorem both_ok (b : Bd) (hbn : BNOk b) (hlb : LbOk b 1000) (hhds : ∀ ch x, ltrOf ch = some x → LOk b ch → ∀ s, Ret (callN prg 38 16 [ch.v, .dct (bks b) (bxs b)] s) fun v s' => v = .tup ((headsC b ch).map .str) ∧ s' = s)
    (is : Bool) (w : Txt) (ks : List Ch) (hl : ks.length ≤ 60) (hn : ∀ c ∈ ks, NOk b 2 c) (ho : ∀ c ∈ ks, LOk b c) :
    (∀ s, Ret (callN prg 39 7 [kdT ks, .dct (bks b) (bxs b), askV is w] s) fun v s' => v = .tup [kdT (jn (ks.flatMap (sideC b (fOf is w true)))), kdT (jn (ks.flatMap (sideC b (fOf is w false))))] ∧ Gr s s') ∧
    (∀ kv, (∀ s, itemsOf s kv = some (Ch.vs ks, none)) → ∀ yes s, Ret (callN prg 39 18 [kv, .dct (bks b) (bxs b), askV is w, .bl yes] s) fun v s' => v = kdT (ks.flatMap (sideC b (fOf is w yes))) ∧ Gr s s') ∧
    (∀ yes s, Ret (callN prg 39 21 [.lst [kdT (ks.flatMap (sideC b (fOf is w yes)))]] s) fun v s' => v = kdT (jn (ks.flatMap (sideC b (fOf is w yes)))) ∧ Gr s s') ∧
    ∀ yes, Dt 12 (kdT (jn (ks.flatMap (sideC b (fOf is w yes))))) := by
  have mem : ∀ yes, ∀ c ∈ ks.flatMap (sideC b (fOf is w yes)), TC 2 c ∧ c.sh.length ≤ 1000 := fun yes c hc => by
    obtain ⟨k, hk, hc⟩ := List.mem_flatMap.mp hc
    exact (hn k hk).1 _ c hc
  have len : ∀ yes, (ks.flatMap (sideC b (fOf is w yes))).length ≤ 60 := fun yes => by
    have := fm_len (f := sideC b (fOf is w yes)) (n := 1) (ks := ks) fun k _ => sideC_len b _ k
    omega
  refine ⟨fun s => ?_, fun kv hkv yes s => ?_, fun yes s => ?_, fun yes => ?_⟩
  · refine (narrowed_okP (p := prg) rfl rfl rfl rfl rfl rfl rfl rfl 2 31 s b hbn is w ks hl hn).imp fun v s' ⟨⟨Y, N, ev, h1, h2, s1, s2⟩, g⟩ => ⟨?_, g⟩
    obtain ⟨j1, j2⟩ := jn_ok (d := 2) fun c hc => (mem true c hc).1
    obtain ⟨i1, i2⟩ := jn_ok (d := 2) fun c hc => (mem false c hc).1
    have e1 : Y = jn (ks.flatMap (sideC b (fOf is w true))) := ltsh_uniq s1 j1 fun x => by rw [h1, j2, flat_map, fOf_true]
    have e2 : N = jn (ks.flatMap (sideC b (fOf is w false))) := ltsh_uniq s2 i1 fun x => by rw [h2, i2, flat_map, fOf_false]
    rw [ev, e1, e2]
  · refine side_ok (p := prg) rfl rfl rfl rfl 36 b hlb (fun ch x h1 h2 s => (hhds ch x h1 h2 s)) is yes w ks kv hkv hl ho (fun c hc => (hn c hc).2.1) (fun x hs hc => ((hn _ hc).2.2.2.2 x hs rfl).2.2) s |>.imp fun v s' q => q
  · have := lawjoin_jn (p := prg) rfl rfl rfl 2 33 (by decide) s (.lst [kdT (ks.flatMap (sideC b (fOf is w yes)))]) none [ks.flatMap (sideC b (fOf is w yes))] (fun _ => rfl) (fun _ => rfl) (by simpa using len yes) (fun c hc => by
      have hc : c ∈ ks.flatMap (sideC b (fOf is w yes)) := by simpa using hc
      exact ⟨(mem yes c hc).1, Nat.le_trans (mem yes c hc).2 (by decide)⟩)
    refine this.imp fun v s' ⟨ev, g⟩ => ⟨?_, g⟩
    rw [ev]; simp
  · exact kdT_dt (d := 2) fun k hk => ((mem yes k ((jn_ok (d := 2) fun c hc => (mem yes c hc).1).2 k |>.mp hk)).1).dp
theorem plain_law (ns : List Int) (hl : ns.length ≤ 63) : ∃ st', callN prg 40 25 [.lst (ns.map .int)] [] = .ok (.bl true) st' := by
  have R : Ret (callN prg 40 25 [.lst (ns.map .int)] []) fun v _ => v = .bl true := by
    refine call_of (d := d_law) rfl rfl ?_
    simp only [d_law, List.map_cons, List.map_nil, List.length_cons, List.length_nil, List.cons_append, List.nil_append, Nat.reduceAdd, Nat.reduceSub, Nat.zero_add, Nat.add_zero, Nat.sub_self, Nat.sub_zero, List.replicate]
    array_mem_dec
    refine (begun_ok (p := prg) (n := 37) hl rfl rfl).imp fun v st ⟨ev, c, w, hc⟩ => ?_
    subst ev
    array_mem_dec
    refine (bounds_ok (p := prg) hc rfl rfl rfl rfl rfl rfl 2 32 (by decide) st w).imp fun v st1 ⟨⟨b, e1, hb⟩, w1, _⟩ => ?_
    subst e1
    array_mem_dec
    refine (any_ok (p := prg) hc rfl rfl rfl rfl rfl rfl rfl rfl rfl 29 2 2 st1 w1 b hb (by decide)).imp fun v s1 ⟨⟨ks, e2, hks⟩, w3, _⟩ => ?_
    subst e2
    array_mem_dec
    refine (ask_ok (p := prg) hc rfl rfl rfl 37 s1 w3).imp fun v s2 ⟨⟨is, a, e3⟩, w4, _⟩ => ?_
    subst e3
    have hn : ∀ k ∈ ks, NOk b 2 k := fun k hk => (nok_ofD hc hb (d := 1) (by decide) hks k hk).1
    have tcl := hks.tc hc hb (by decide)
    have lo : ∀ k ∈ ks, LOk b k := fun k hk => by
      obtain ⟨_, _, n3, n4, n5⟩ := hn k hk
      refine ⟨fun x e => ?_, fun x hs e => (n5 x hs e).2.1, n3⟩
      cases k with
      | ltr y => simp only [ltrOf, Option.some.injEq] at e; subst e; exact n4 y rfl
      | cut y hs => simp only [ltrOf, Option.some.injEq] at e; subst e; exact (n5 y hs rfl).1
      | _ => simp [ltrOf] at e
    have lb : LbOk b 1000 := by
      refine ⟨hb.nd, fun q hq => ?_⟩
      have hk := (hb.all q hq).2
      have hd := heads_hds hc hk
      refine ⟨fun z => ?_, by have := hd.len; omega, fun h hh => by have := (hd.ch h hh).1; omega⟩
      obtain ⟨k0, hk0⟩ : ∃ k, k ∈ q.2 := by
        cases hq2 : q.2 with
        | nil => have := hk.1.1; rw [hq2] at this; simp at this
        | cons k _ => exact ⟨k, by simp⟩
      have m0 : k0.hd ∈ Ch.heads q.2 := (sortU_mem _ _).mpr (List.mem_map.mpr ⟨k0, hk0, rfl⟩)
      rw [z] at m0
      cases m0
    obtain ⟨N1, N2, N3, N4⟩ := both_ok b (bnok hc hb) lb (fun ch x h1 h2 s => lheads_any (p := prg) hc rfl rfl 36 2 s b hb ch x h1 h2) is a ks (by omega) hn lo
    array_mem_dec
    refine (N1 s2).imp fun v s3 ⟨ev, g3⟩ => ?_
    subst ev
    array_mem_dec
    refine ⟨fun _ => ?_, nofun⟩
    array_mem_dec
    refine iteF' rfl ?_
    array_mem_dec
    rw [ckN]
    refine lc_mapJ (fun s => Dw c s) Val.bl (fun yes => kdT (jn (ks.flatMap (sideC b (fOf is a yes))))) [true, false] _ _ ?_ (fun yes _ => ⟨_, rfl, fun _ => rfl, fun s ws => ?_⟩) (by decide) ?_
    · obtain ⟨x, rfl⟩ := g3
      obtain ⟨d, h0, r⟩ := w4
      exact ⟨d, by rw [List.getElem?_append_left (List.getElem?_eq_some_iff.mp h0).1]; exact h0, r⟩
    · have gd : ∀ {s s' : Store}, Dw c s → Gr s s' → Dw c s' := fun {s s'} h g => by
        obtain ⟨x, rfl⟩ := g
        obtain ⟨d, h0, r⟩ := h
        exact ⟨d, by rw [List.getElem?_append_left (List.getElem?_eq_some_iff.mp h0).1]; exact h0, r⟩
      array_mem_dec
      refine (N2 (kdT ks) (fun _ => rfl) yes s).imp fun v s' ⟨ev, g⟩ => ?_
      subst ev
      array_mem_dec
      refine (N3 yes s').imp fun v s'' ⟨ev, g'⟩ => ⟨ev, gd (gd ws g) g'⟩
    intro s4 w5
    have D1 : ∀ {s : Store} (yes : Bool), cmpV s .ne (kdT (jn (ks.flatMap (sideC b (fOf is a yes))))) (kdT (jn (ks.flatMap (sideC b (fOf is a yes))))) = some false := fun {s} yes => ne_self fun x hx => (N4 yes x hx).le 48
    array_mem_dec
    refine ⟨_, D1 true, ?_⟩
    refine orF' rfl ?_
    array_mem_dec
    refine ⟨_, D1 false, ?_⟩
    refine iteF' rfl ?_
    array_mem_dec
    refine (taken_ok (p := prg) (n := 38) rfl w5 (by decide) (by decide)).imp fun v s5 ⟨⟨i, e2, l2, m2⟩, w6, _⟩ => ?_
    subst e2
    obtain ⟨t, ht, e⟩ := at_nat (xs := ([[97], [98], [115, 104, 97, 112, 101], [97, 98], [104, 97, 112]] : List Txt).map .str) l2 m2
    obtain ⟨t, _, rfl⟩ := List.mem_map.mp ht
    refine ⟨_, e, ?_⟩
    array_mem_dec
    rw [ckN]
    refine for_map (fun q : Bool × Txt => askV q.1 q.2) (l := [(false, t), (true, kShape)]) (fun _ η s => ∃ y4 y6, η = [some (.lst (ns.map .int)), some (.loc 0), some (.dct (bks b) (bxs b)), some (kdT ks), y4, some (.tup [kdT (jn (ks.flatMap (sideC b (fOf is a true)))), kdT (jn (ks.flatMap (sideC b (fOf is a false))))]), y6, none, some (.lst (Ch.vs SH))]) ⟨_, _, rfl⟩ ?_ ?_
    · rintro k ⟨is, a⟩ _ η s ⟨y4, y6, rfl⟩
      obtain ⟨N1, N2, N3, N4⟩ := both_ok [] ⟨by simp [bks], by simp⟩ ⟨by simp [bks], by simp⟩ (fun ch x h1 h2 s => by obtain ⟨ks, hm⟩ := h2.l x h1; cases hm) is a SH (by decide) SH_n SH_lo
      refine ⟨_, rfl, ?_⟩
      array_mem_dec
      rw [ckN]
      refine lc_mapJ (fun _ => True) Val.bl (fun yes => kdT (jn (SH.flatMap (sideC [] (fOf is a yes))))) [true, false] _ _ trivial (fun yes _ => ⟨_, rfl, fun _ => rfl, fun s _ => ?_⟩) (by decide) ?_
      · array_mem_dec
        refine v_dsp2 (ks := []) (xs := []) (D := ([], [])) ?_
        array_mem_dec
        refine ⟨rfl, by decide, rfl, ?_⟩
        array_mem_dec
        refine (N2 (.lst (Ch.vs SH)) (fun _ => rfl) yes s).imp fun v s' ⟨ev, g⟩ => ?_
        subst ev
        array_mem_dec
        refine (N3 yes s').imp fun v s'' ⟨ev, g'⟩ => ⟨ev, trivial⟩
      intro s6 _
      array_mem_dec
      refine v_dsp2 (ks := []) (xs := []) (D := ([], [])) ?_
      array_mem_dec
      refine ⟨rfl, by decide, rfl, ?_⟩
      array_mem_dec
      refine (N1 s6).imp fun v s7 ⟨ev, g⟩ => ?_
      subst ev
      array_mem_dec
      refine ⟨false, ne_self fun x hx => ?_, ?_⟩
      · simp only [List.mem_cons, List.not_mem_nil, or_false] at hx
        rcases hx with rfl | rfl
        · exact (N4 true).le 47
        · exact (N4 false).le 47
      refine iteF' rfl ?_
      array_mem_dec
      exact ⟨_, _, rfl⟩
    rintro η s ⟨y4, y6, rfl⟩
    array_mem_dec
    rfl
  obtain ⟨v, st', e, rfl⟩ := R.ex
  exact ⟨st', e⟩
end Mi
set_option maxHeartbeats 0
namespace Mi
open PySem L2 PySem.Spec PyProof.Rows
def top (i : Nat) : Stmt := PySem.Challenge.pw_soothcheck_k08_kinds_narrowed.main.body.getD i (.Pass ⟨0, 0, 0, 0⟩)
def srcs : List Src := [⟨d_shown_kind, top 1⟩, ⟨d_shown_choice, top 2⟩, ⟨d_joined, top 3⟩, ⟨d_head_of_choice, top 4⟩, ⟨d_heads_of, top 5⟩, ⟨d_fits_ask, top 6⟩, ⟨d_cut_to, top 7⟩, ⟨d_narrowed, top 8⟩, ⟨d_law_begun, top 10⟩, ⟨d_law_taken, top 11⟩, ⟨d_law_word, top 12⟩, ⟨d_law_kind, top 13⟩, ⟨d_law_choice, top 14⟩, ⟨d_law_fields, top 15⟩, ⟨d_law_bounds, top 16⟩, ⟨d_law_head_of, top 17⟩, ⟨d_law_heads_of, top 18⟩, ⟨d_law_answers, top 19⟩, ⟨d_law_side, top 20⟩, ⟨d_law_told, top 21⟩, ⟨d_law_told_choice, top 22⟩, ⟨d_law_join, top 23⟩, ⟨d_law_cut, top 24⟩, ⟨d_law_any_kind, top 25⟩, ⟨d_law_ask, top 26⟩, ⟨d_law, top 27⟩]
theorem bds : BdAll srcs := ⟨fun _ _ _ _ _ _ us hl => match us, hl with | [_], _ => rfl,
  fun _ _ _ _ _ _ us hl => match us, hl with | [_], _ => rfl,
  fun _ _ _ _ _ _ us hl => match us, hl with | [_], _ => rfl,
  fun _ _ _ _ _ _ us hl => match us, hl with | [_], _ => rfl,
  fun _ _ _ _ _ _ us hl => match us, hl with | [_, _], _ => rfl,
  fun _ _ _ _ _ _ us hl => match us, hl with | [_, _], _ => rfl,
  fun _ _ _ _ _ _ us hl => match us, hl with | [_, _, _], _ => rfl,
  fun _ _ _ _ _ _ us hl => match us, hl with | [_, _, _], _ => rfl,
  fun _ _ _ _ _ _ us hl => match us, hl with | [_], _ => rfl,
  fun _ _ _ _ _ _ us hl => match us, hl with | [_, _], _ => rfl,
  fun _ _ _ _ _ _ us hl => match us, hl with | [_, _], _ => rfl,
  fun _ _ _ _ _ _ us hl => match us, hl with | [_, _, _], _ => rfl,
  fun _ _ _ _ _ _ us hl => match us, hl with | [_, _, _], _ => rfl,
  fun _ _ _ _ _ _ us hl => match us, hl with | [_, _, _], _ => rfl,
  fun _ _ _ _ _ _ us hl => match us, hl with | [_, _], _ => rfl,
  fun _ _ _ _ _ _ us hl => match us, hl with | [_], _ => rfl,
  fun _ _ _ _ _ _ us hl => match us, hl with | [_, _], _ => rfl,
  fun _ _ _ _ _ _ us hl => match us, hl with | [_, _], _ => rfl,
  fun _ _ _ _ _ _ us hl => match us, hl with | [_, _, _, _], _ => rfl,
  fun _ _ _ _ _ _ us hl => match us, hl with | [_], _ => rfl,
  fun _ _ _ _ _ _ us hl => match us, hl with | [_], _ => rfl,
  fun _ _ _ _ _ _ us hl => match us, hl with | [_], _ => rfl,
  fun _ _ _ _ _ _ us hl => match us, hl with | [_, _], _ => rfl,
  fun _ _ _ _ _ _ us hl => match us, hl with | [_, _, _], _ => rfl,
  fun _ _ _ _ _ _ us hl => match us, hl with | [_], _ => rfl,
  fun _ _ _ _ _ _ us hl => match us, hl with | [_], _ => rfl, trivial⟩
theorem oks : srcs.all (Src.okB prg) = true := by decide +kernel
end Mi
namespace Mi
open PySem L2 PySem.Spec PyProof.Rows
abbrev RR : PySem.W.OpenRow := PySem.W.OpenLaw.row PySem.Challenge.rw_soothcheck_k08_kinds_narrowed
def tfs : List Txt := [[95, 108, 97, 119, 95, 106, 111, 105, 110]]
abbrev tfD : List He.Defn := tfs.map fun t => (tx t, none)
abbrev hk : PySem.W.Hook := He.hookX 4 (faOf srcs ++ []) (srcs.map Src.dd) [] tfD (fun _ => true)
def ob (s : PySem.W.SharedT) : He.AlX := He.obsX 4 (faOf srcs ++ []) (srcs.map Src.dd) [] tfD (fun _ => true) (HandSHeadRun.getT s)
theorem ob_eq (s : PySem.W.SharedT) : ob s = hk.obs s.abs := He.obsX_eq (HandSHeadRun.getT_eq s)
def loose : List Str := (["shown_kind", "shown_choice", "joined", "head_of_choice", "heads_of", "fits_ask", "cut_to", "narrowed", "_law_begun", "_law_taken", "_law_word", "_law_kind", "_law_choice", "_law_fields", "_law_bounds", "_law_head_of", "_law_heads_of", "_law_answers", "_law_side", "_law_told", "_law_told_choice", "_law_join", "_law_cut", "_law_any_kind", "_law_ask"] : List Str)
theorem run (w : World) : HandSHeadRun.RunEq RR (PySem.W.view RR.prog [27]) hk ob 4000 loose w := by
  intro os
  kernel_rfl
end Mi
open PySem PySem.W PySem.Calls PyProof.Rows
theorem PySem.Challenge.cw_soothcheck_k08_kinds_narrowed_holds : PySem.Challenge.rw_soothcheck_k08_kinds_narrowed.Holds := by
  w_on; o_law
  refine HandSHeadRun.head_any (r := Mi.RR) (q := view Mi.RR.prog [27]) (H := Mi.hk) (ob := Mi.ob) (M := 4000) (loose := Mi.loose) (d := HandSHeadRun.topDef Mi.RR.prog 27) (kwd := [])
    Mi.ob_eq (by kernel_rfl) (fun s => by kernel_rfl) Mi.run (by kernel_rfl) (by kernel_rfl) (by kernel_rfl) (by rfl) (by first | assumption | decide +kernel)
    (by decide +kernel) ⟨rfl, rfl, rfl, rfl, rfl, by decide +kernel⟩ ?hw ?hc
  case hw => w_witness2
  case hc =>
    exact Mi.walk_end (l := PySem.Challenge.rw_soothcheck_k08_kinds_narrowed) (p := Mi.prg) (ss := Mi.srcs) (more := []) (N := 39) (f := 25) (df := Mi.d_law) (x := [95, 108, 97, 119, 95, 115, 99, 114, 105, 112, 116])
      rfl (by kernel_rfl) ⟨rfl, by decide, by decide⟩ rfl rfl rfl (by kernel_rfl) Mi.oks Mi.bds (tf := Mi.tfs) (by decide) (by decide +kernel) (fun _ _ _ _ _ _ _ i q h => by cases h) Mi.plain_law
