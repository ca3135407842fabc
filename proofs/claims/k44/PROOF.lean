import PyProof.Rows.All
import Wide.All
import OpenK.AllK
import Wide.FinOn
import HandS.Base
import HandS.Call
import HandS.List
import HandS.Star
import HandS.TupAny
import HandS.TupLe
import HandS.Deep
import HandS.Wide
import HandS.IsInst
import HandS.Dict
import HandS.DictTup
import HandS.TupLen
import HandS.WordsDict
import HandS.Conv
import HandS.Text
import HandS.More
import HandS.SortInts
import HandS.Comp
import HandS.Iter
import HandS.Walk
import HandS.Small
import HandS.Style
import HandS.Flow
import HandS.DictComp
import HandS.Zip
import PyProof.Draws
import PyProof.EnumFor
import PyProof.EnumIter
import PyProof.EnumMake
import KE.GoesMore
import KE.GoesEnum
import PyProof.DictUpdate
import PyProof.EqAt
import PyProof.EqKinds
import PyProof.TupleCall
import PyProof.TupleOfSeq
import PyProof.Rows.SortShell
import KE.KSortTup
import KE.KDictSum
import HandS.Sort
import HandS.SortOrd
import HandS.SortRule
import PyProof.SumWalk
import HandS.Codes
import HandS.Defaults
import KE.BitLaws
import KE.KStateDown
import Lean
import HandS.Ends
import HandS.Words
import HandS.WordsExc
import HandS.Head0
import HandS.Head1
import HandS.Head2
import HandS.HeadEnd
import HandS.HeadHook1
import HandS.HeadHook2
import PySem.Challenge.RW_tietints_k44_whole_pairings_counted
set_option Elab.async false
set_option linter.all false
set_option maxRecDepth 100000
/-! Z1: values as trees; the shared heap and the owned cells; the invariant and how it moves. -/
namespace Z
open PySem PySem.Spec PyProof.Rows L2

/-- a value as a tree -/
inductive T where
  | non | bl (b : Bool) | int (i : Int) | str (x : Str)
  | tup (ts : List T) | ktup (ts : List T) | lst (ts : List T) | frl (ts : List T) | dic (ks : List Key) (vs : List T) | dit (ks : List (List Key)) (vs : List T)

def kT : Key → T
  | .inl i => .int i
  | .inr x => .str x
def Le (H H' : Hp) : Prop := ∀ a o, H a = some o → H' a = some o
theorem Le.refl {H : Hp} : Le H H := fun _ _ e => e
theorem Le.trans {H1 H2 H3 : Hp} (h : Le H1 H2) (h' : Le H2 H3) : Le H1 H3 := fun a o e => h' a o (h a o e)
theorem Le.upd {H : Hp} {p : Addr} {o : HO} (h : H p = none) : Le H (upd H p o) := fun a u e => by
  rw [upd_ne (ne_of_none e h)]; exact e
theorem Rd.mono {H H' : Hp} {a : Addr} {u : HO} (l : Le H H') (h : Rd H a u) : Rd H' a u := by
  rcases h with h | ⟨o, h⟩
  · exact .inl (l _ _ h)
  · exact .inr ⟨o, l _ _ h⟩
theorem SqT.mono {K : PySem.W.Frag} {H H' : Hp} {a : Addr} {xs : List V} (l : Le H H') (h : SqT K H a xs) : SqT K H' a xs := h.elim (fun z => .inl (Rd.mono l z)) .inr
theorem SqL.mono {K : PySem.W.Frag} {H H' : Hp} {a : Addr} {xs : List V} (l : Le H H') (h : SqL K H a xs) : SqL K H' a xs := h.elim (fun z => .inl (Rd.mono l z)) .inr
/-- a dict's object, by its keys and values -/
def DO (o : HO) (ks : List Key) (vs : List V) : Prop := ∃ l : List (Key × V), o = .dK l ∧ l.map (·.1) = ks ∧ l.map (·.2) = vs
def DOt (o : HO) (ks : List (List Key)) (vs : List V) : Prop := ∃ l : List (List Key × V), o = .dT l ∧ l.map (·.1) = ks ∧ l.map (·.2) = vs

mutual
/-- a tree in a heap -/
def R (K : PySem.W.Frag) (H : Hp) : T → V → Prop
  | .non, v => v = .non
  | .bl b, v => v = .bl b
  | .int i, v => v = .int i
  | .str x, v => v = .str x
  | .tup ts, v => ∃ a vs, v = .ref a ∧ H a = some (.tup vs) ∧ RL K H ts vs
  | .ktup ts, v => ∃ a vs, v = .ref a ∧ SqT K (fun _ => none) a vs ∧ RL K H ts vs
  | .lst ts, v => ∃ a vs, v = .ref a ∧ H a = some (.lst vs) ∧ RL K H ts vs
  | .frl ts, v => ∃ a vs, v = .ref a ∧ SqL K H a vs ∧ RL K H ts vs
  | .dic ks ts, v => ∃ a o vs, v = .ref a ∧ H a = some o ∧ DO o ks vs ∧ RL K H ts vs
  | .dit ks ts, v => ∃ a o vs, v = .ref a ∧ H a = some o ∧ DOt o ks vs ∧ RL K H ts vs
def RL (K : PySem.W.Frag) (H : Hp) : List T → List V → Prop
  | [], vs => vs = []
  | t :: ts, vs => ∃ v r, vs = v :: r ∧ R K H t v ∧ RL K H ts r
end
mutual
/-- no list, no dict within -/
def fz : T → Bool
  | .tup ts => fzL ts
  | .ktup ts => fzL ts
  | .lst _ => false
  | .frl _ => false
  | .dic _ _ => false
  | .dit _ _ => false
  | _ => true
def fzL : List T → Bool
  | [] => true
  | t :: ts => fz t && fzL ts
end
/-- an object that one owns: its members lie in the shared heap -/
def CellO (K : PySem.W.Frag) (Hs : Hp) : T → HO → Prop
  | .lst ts, o => ∃ vs, o = .lst vs ∧ RL K Hs ts vs
  | .dic ks ts, o => ∃ vs, DO o ks vs ∧ RL K Hs ts vs
  | .dit ks ts, o => ∃ vs, DOt o ks vs ∧ RL K Hs ts vs
  | _, _ => False
theorem R.ofCell {K : PySem.W.Frag} {H : Hp} {a : Addr} {o : HO} {t : T} (h : H a = some o) (c : CellO K H t o) : R K H t (.ref a) := by
  cases t <;> first | exact c.elim | skip
  · obtain ⟨vs, rfl, r⟩ := c
    exact ⟨a, vs, rfl, h, r⟩
  · obtain ⟨vs, d, r⟩ := c
    exact ⟨a, o, vs, rfl, h, d, r⟩
  · obtain ⟨vs, d, r⟩ := c
    exact ⟨a, o, vs, rfl, h, d, r⟩
section
variable {K : PySem.W.Frag} {H H' : Hp}
theorem mono_all (l : Le H H') : (∀ t v, R K H t v → R K H' t v) := by
  intro t
  refine T.rec (motive_1 := fun t => ∀ v, R K H t v → R K H' t v) (motive_2 := fun ts => ∀ vs, RL K H ts vs → RL K H' ts vs) ?_ ?_ ?_ ?_ ?_ ?_ ?_ ?_ ?_ ?_ ?_ ?_ t
  · intro v h; simpa only [R] using h
  · intro b v h; simpa only [R] using h
  · intro b v h; simpa only [R] using h
  · intro b v h; simpa only [R] using h
  · intro ts ih v h
    simp only [R] at h ⊢
    obtain ⟨a, vs, e, q, r⟩ := h
    exact ⟨a, vs, e, l _ _ q, ih _ r⟩
  · intro ts ih v h
    simp only [R] at h ⊢
    obtain ⟨a, vs, e, q, r⟩ := h
    exact ⟨a, vs, e, q, ih _ r⟩
  · intro ts ih v h
    simp only [R] at h ⊢
    obtain ⟨a, vs, e, q, r⟩ := h
    exact ⟨a, vs, e, l _ _ q, ih _ r⟩
  · intro ts ih v h
    simp only [R] at h ⊢
    obtain ⟨a, vs, e, q, r⟩ := h
    exact ⟨a, vs, e, SqL.mono l q, ih _ r⟩
  · intro ks ts ih v h
    simp only [R] at h ⊢
    obtain ⟨a, o, vs, e, q, d, r⟩ := h
    exact ⟨a, o, vs, e, l _ _ q, d, ih _ r⟩
  · intro ks ts ih v h
    simp only [R] at h ⊢
    obtain ⟨a, o, vs, e, q, d, r⟩ := h
    exact ⟨a, o, vs, e, l _ _ q, d, ih _ r⟩
  · intro vs h; simpa only [RL] using h
  · intro t ts i1 i2 vs h
    simp only [RL] at h ⊢
    obtain ⟨v, r, e, h1, h2⟩ := h
    exact ⟨v, r, e, i1 _ h1, i2 _ h2⟩
theorem R.mono {t : T} {v : V} (l : Le H H') (h : R K H t v) : R K H' t v := mono_all l t v h
theorem RL.nil {vs : List V} : RL K H [] vs ↔ vs = [] := by simp only [RL]
theorem RL.cons {t : T} {ts : List T} {vs : List V} : RL K H (t :: ts) vs ↔ ∃ v r, vs = v :: r ∧ R K H t v ∧ RL K H ts r := by simp only [RL]
theorem RL.mono (l : Le H H') : ∀ {ts : List T} {vs : List V}, RL K H ts vs → RL K H' ts vs
  | [], _, h => RL.nil.mpr (RL.nil.mp h)
  | _ :: _, _, h => by
    obtain ⟨v, r, e, h1, h2⟩ := RL.cons.mp h
    exact RL.cons.mpr ⟨v, r, e, h1.mono l, RL.mono l h2⟩
theorem CellO.mono (l : Le H H') {t : T} {o : HO} (h : CellO K H t o) : CellO K H' t o := by
  cases t <;> first | exact h.elim | skip
  all_goals
    obtain ⟨vs, e, r⟩ := h
    exact ⟨vs, e, r.mono l⟩
/-- what is no list and no dict stays true where only lists and dicts differ -/
theorem fz_all (l : ∀ a vs, H a = some (.tup vs) → H' a = some (.tup vs)) : (∀ t v, fz t = true → R K H t v → R K H' t v) := by
  intro t
  refine T.rec (motive_1 := fun t => ∀ v, fz t = true → R K H t v → R K H' t v) (motive_2 := fun ts => ∀ vs, fzL ts = true → RL K H ts vs → RL K H' ts vs) ?_ ?_ ?_ ?_ ?_ ?_ ?_ ?_ ?_ ?_ ?_ ?_ t
  · intro v _ h; simpa only [R] using h
  · intro b v _ h; simpa only [R] using h
  · intro b v _ h; simpa only [R] using h
  · intro b v _ h; simpa only [R] using h
  · intro ts ih v f h
    simp only [R] at h ⊢
    obtain ⟨a, vs, e, q, r⟩ := h
    exact ⟨a, vs, e, l _ _ q, ih _ (by simpa only [fz] using f) r⟩
  · intro ts ih v f h
    simp only [R] at h ⊢
    obtain ⟨a, vs, e, q, r⟩ := h
    exact ⟨a, vs, e, q, ih _ (by simpa only [fz] using f) r⟩
  · intro ts ih v f h; simp [fz] at f
  · intro ts ih v f h; simp [fz] at f
  · intro ks ts ih v f h; simp [fz] at f
  · intro ks ts ih v f h; simp [fz] at f
  · intro vs _ h; simpa only [RL] using h
  · intro t ts i1 i2 vs f h
    simp only [fzL, Bool.and_eq_true] at f
    simp only [RL] at h ⊢
    obtain ⟨v, r, e, h1, h2⟩ := h
    exact ⟨v, r, e, i1 _ f.1 h1, i2 _ f.2 h2⟩
theorem fzL_all (l : ∀ a vs, H a = some (.tup vs) → H' a = some (.tup vs)) : ∀ {ts : List T} {vs : List V}, fzL ts = true → RL K H ts vs → RL K H' ts vs
  | [], _, _, h => RL.nil.mpr (RL.nil.mp h)
  | _ :: _, _, f, h => by
    simp only [fzL, Bool.and_eq_true] at f
    obtain ⟨v, r, e, h1, h2⟩ := RL.cons.mp h
    exact RL.cons.mpr ⟨v, r, e, fz_all l _ _ f.1 h1, fzL_all l f.2 h2⟩
theorem RL.length : ∀ {ts : List T} {vs : List V}, RL K H ts vs → vs.length = ts.length
  | [], _, h => by rw [RL.nil.mp h]; rfl
  | _ :: _, _, h => by
    obtain ⟨v, r, rfl, _, h2⟩ := RL.cons.mp h
    rw [List.length_cons, List.length_cons, RL.length h2]
theorem RL.get : ∀ {ts : List T} {vs : List V} {i : Nat} {t : T}, RL K H ts vs → ts[i]? = some t → ∃ v, vs[i]? = some v ∧ R K H t v
  | [], _, _, _, _, e => by simp at e
  | _ :: _, _, 0, _, h, e => by
    obtain ⟨v, r, rfl, h1, h2⟩ := RL.cons.mp h
    simp at e; subst e
    exact ⟨v, rfl, h1⟩
  | _ :: _, _, i + 1, _, h, e => by
    obtain ⟨v, r, rfl, h1, h2⟩ := RL.cons.mp h
    obtain ⟨w, e1, e2⟩ := RL.get (i := i) h2 (by simpa using e)
    exact ⟨w, by simpa using e1, e2⟩
theorem RL.append : ∀ {ts us : List T} {vs ws : List V}, RL K H ts vs → RL K H us ws → RL K H (ts ++ us) (vs ++ ws)
  | [], _, _, _, h, h' => by rw [RL.nil.mp h]; exact h'
  | _ :: _, _, _, _, h, h' => by
    obtain ⟨v, r, rfl, h1, h2⟩ := RL.cons.mp h
    exact RL.cons.mpr ⟨v, _, rfl, h1, RL.append h2 h'⟩
theorem RL.one {t : T} {v : V} (h : R K H t v) : RL K H [t] [v] := RL.cons.mpr ⟨v, [], rfl, h, RL.nil.mpr rfl⟩
theorem RL.set : ∀ {ts : List T} {vs : List V} (i : Nat) {t : T} {v : V}, RL K H ts vs → R K H t v → RL K H (ts.set i t) (vs.set i v)
  | [], _, _, _, _, h, _ => by rw [RL.nil.mp h]; exact RL.nil.mpr rfl
  | _ :: _, _, 0, _, _, h, h' => by
    obtain ⟨v, r, rfl, h1, h2⟩ := RL.cons.mp h
    exact RL.cons.mpr ⟨_, _, rfl, h', h2⟩
  | _ :: _, _, i + 1, _, _, h, h' => by
    obtain ⟨v, r, rfl, h1, h2⟩ := RL.cons.mp h
    exact RL.cons.mpr ⟨_, _, rfl, h1, RL.set i h2 h'⟩
theorem RL.take : ∀ {ts : List T} {vs : List V} (n : Nat), RL K H ts vs → RL K H (ts.take n) (vs.take n)
  | [], _, n, h => by rw [RL.nil.mp h]; simp [RL.nil]
  | _ :: _, _, 0, h => by simp [RL.nil]
  | _ :: _, _, n + 1, h => by
    obtain ⟨v, r, rfl, h1, h2⟩ := RL.cons.mp h
    exact RL.cons.mpr ⟨_, _, rfl, h1, RL.take n h2⟩
theorem RL.drop : ∀ {ts : List T} {vs : List V} (n : Nat), RL K H ts vs → RL K H (ts.drop n) (vs.drop n)
  | [], _, n, h => by rw [RL.nil.mp h]; simp [RL.nil]
  | _ :: _, _, 0, h => h
  | _ :: _, _, n + 1, h => by
    obtain ⟨v, r, rfl, h1, h2⟩ := RL.cons.mp h
    exact RL.drop n h2
theorem RL.ints : ∀ {ns : List Int} {vs : List V}, RL K H (ns.map T.int) vs → vs = ns.map V.int
  | [], _, h => RL.nil.mp h
  | n :: ns, _, h => by
    obtain ⟨v, r, rfl, h1, h2⟩ := RL.cons.mp h
    simp only [R] at h1
    rw [h1, RL.ints h2]; rfl
theorem RL.map {α : Type} {f : α → T} {g : α → V} (h : ∀ x, R K H (f x) (g x)) : ∀ {xs : List α}, RL K H (xs.map f) (xs.map g)
  | [] => RL.nil.mpr rfl
  | x :: xs => RL.cons.mpr ⟨_, _, rfl, h x, RL.map h⟩
theorem RL.of_ints : ∀ {ns : List Int}, RL K H (ns.map T.int) (ns.map V.int)
  | [] => RL.nil.mpr rfl
  | n :: ns => RL.cons.mpr ⟨_, _, rfl, by simp only [R], RL.of_ints⟩
end

/-- how one has a value: shared, owned, lent by the caller -/
inductive Md where
  | sh | ow | pn
  deriving DecidableEq
abbrev PSt := List (Option (T × Md))
abbrev Tmp := List (V × T × Md)
/-- the entry of a def's call: the heap, its shared part, what the caller lends (slots and addresses) -/
structure Ent where
  H0 : Hp
  Hs0 : Hp
  pins : List (Nat × Addr)
def Ent.adr (E : Ent) (a : Addr) : Prop := ∃ i, (i, a) ∈ E.pins
def OK (K : PySem.W.Frag) (Hs H : Hp) (t : T) (m : Md) (v : V) : Prop :=
  match m with
  | .sh => R K Hs t v
  | _ => ∃ a o, v = .ref a ∧ Hs a = none ∧ H a = some o ∧ CellO K Hs t o
theorem OK.own {K : PySem.W.Frag} {Hs H : Hp} {t : T} {m : Md} {v : V} (h : m ≠ .sh) : OK K Hs H t m v ↔ ∃ a o, v = .ref a ∧ Hs a = none ∧ H a = some o ∧ CellO K Hs t o := by
  cases m
  · exact absurd rfl h
  · exact Iff.rfl
  · exact Iff.rfl
def Ow (σ : L2.St) (τ : PSt) (tmp : Tmp) : Nat ⊕ Nat → Addr → Prop
  | .inl i, a => σ[i]? = some (some (.ref a)) ∧ ∃ t m, τ[i]? = some (some (t, m)) ∧ m ≠ Md.sh
  | .inr j, a => ∃ t m, tmp[j]? = some (V.ref a, t, m) ∧ m ≠ Md.sh
structure INV (K : PySem.W.Frag) (E : Ent) (Hs H : Hp) (σ : L2.St) (τ : PSt) (tmp : Tmp) : Prop where
  le : Le Hs H
  len : τ.length = σ.length
  sl : ∀ (i : Nat) (t : T) (m : Md), τ[i]? = some (some (t, m)) → ∃ v, σ[i]? = some (some v) ∧ OK K Hs H t m v
  tm : ∀ (j : Nat) (v : V) (t : T) (m : Md), tmp[j]? = some (v, t, m) → OK K Hs H t m v
  un : ∀ (x y : Nat ⊕ Nat) (a : Addr), Ow σ τ tmp x a → Ow σ τ tmp y a → x = y
  fr : ∀ a o, E.H0 a = some o → ¬ E.adr a → H a = some o
  fs : ∀ a o, E.H0 a = some o → E.Hs0 a = none → Hs a = none
  fo : ∀ (x : Nat ⊕ Nat) (a : Addr), Ow σ τ tmp x a → ∀ o, E.H0 a = some o → E.adr a
  l0 : Le E.Hs0 Hs
  pn : ∀ (i : Nat) (a : Addr), (i, a) ∈ E.pins → σ[i]? = some (some (.ref a)) ∧ ∃ t, τ[i]? = some (some (t, .pn))
  pq : ∀ (i : Nat) (t : T), τ[i]? = some (some (t, .pn)) → ∃ a, (i, a) ∈ E.pins
  tp : ∀ (j : Nat) (v : V) (t : T), tmp[j]? ≠ some (v, t, .pn)
section
variable {K : PySem.W.Frag} {E : Ent} {Hs H Hs' H' : Hp} {σ σ' : L2.St} {τ τ' : PSt} {tmp tmp' : Tmp} {t : T} {m : Md} {v : V} {a : Addr} {o : HO}
/-- what one owns stands in the heap, not in its shared part -/
theorem INV.owned (I : INV K E Hs H σ τ tmp) {x : Nat ⊕ Nat} (h : Ow σ τ tmp x a) : Hs a = none ∧ ∃ o, H a = some o := by
  cases x with
  | inl i =>
    obtain ⟨e, t, m, e2, hm⟩ := h
    obtain ⟨v, e3, k⟩ := I.sl i t m e2
    rw [e] at e3
    cases e3
    obtain ⟨b, o, eb, h1, h2, _⟩ := (OK.own hm).mp k
    cases eb
    exact ⟨h1, o, h2⟩
  | inr j =>
    obtain ⟨t, m, e2, hm⟩ := h
    obtain ⟨b, o, eb, h1, h2, _⟩ := (OK.own hm).mp (I.tm j _ t m e2)
    cases eb
    exact ⟨h1, o, h2⟩
theorem INV.new0 (I : INV K E Hs H σ τ tmp) (h : H a = none) : E.H0 a = none := by
  cases e : E.H0 a with
  | none => rfl
  | some o =>
    by_cases ha : E.adr a
    · obtain ⟨i, hi⟩ := ha
      obtain ⟨e1, t, e2⟩ := I.pn i a hi
      obtain ⟨_, o, e3⟩ := I.owned (x := .inl i) (a := a) ⟨e1, t, .pn, e2, by decide⟩
      rw [h] at e3; cases e3
    · rw [I.fr a o e ha] at h; cases h
theorem INV.news (I : INV K E Hs H σ τ tmp) (h : H a = none) : Hs a = none := by
  cases e : Hs a with
  | none => rfl
  | some o => rw [I.le a o e] at h; cases h
/-- the heaps grow, what is owned stays -/
theorem INV.heap (I : INV K E Hs H σ τ tmp) (l1 : Le Hs Hs') (l2 : Le Hs' H') (ho : ∀ x a, Ow σ τ tmp x a → H' a = H a ∧ Hs' a = none)
    (h0 : ∀ a o, E.H0 a = some o → (¬ E.adr a → H' a = some o) ∧ (E.Hs0 a = none → Hs' a = none)) : INV K E Hs' H' σ τ tmp := by
  have ok : ∀ {t m v}, (m ≠ .sh → ∃ x a, v = .ref a ∧ Ow σ τ tmp x a) → OK K Hs H t m v → OK K Hs' H' t m v := fun {t m v} hx k => by
    by_cases hm : m = .sh
    · subst hm
      exact R.mono l1 k
    · obtain ⟨x, b, eb, ow⟩ := hx hm
      obtain ⟨a, o, ea, h1, h2, c⟩ := (OK.own hm).mp k
      rw [eb] at ea; cases ea
      refine (OK.own hm).mpr ⟨b, o, eb, (ho x b ow).2, ?_, c.mono l1⟩
      rw [(ho x b ow).1]; exact h2
  refine ⟨l2, I.len, fun i t m e => ?_, fun j v t m e => ?_, I.un, fun a o e ha => (h0 a o e).1 ha, fun a o e e2 => (h0 a o e).2 e2, I.fo, I.l0.trans l1, I.pn, I.pq, I.tp⟩
  · obtain ⟨v, e1, k⟩ := I.sl i t m e
    refine ⟨v, e1, ok (fun hm => ?_) k⟩
    obtain ⟨a, o, ea, _⟩ := (OK.own hm).mp k
    exact ⟨.inl i, a, ea, by rw [ea] at e1; exact e1, t, m, e, hm⟩
  · refine ok (fun hm => ?_) (I.tm j v t m e)
    obtain ⟨a, o, ea, _⟩ := (OK.own hm).mp (I.tm j v t m e)
    exact ⟨.inr j, a, ea, t, m, by rw [ea] at e; exact e, hm⟩
/-- a new object, shared -/
theorem INV.allocS (I : INV K E Hs H σ τ tmp) (h : H a = none) : INV K E (upd Hs a o) (upd H a o) σ τ tmp := by
  have hs := I.news h
  have h0 := I.new0 h
  refine I.heap (Le.upd hs) (fun b u e => ?_) (fun x b ow => ?_) (fun b u e => ⟨fun ha => ?_, fun e2 => ?_⟩)
  · by_cases hb : b = a
    · subst hb; rw [upd_same] at e ⊢; exact e
    · rw [upd_ne hb] at e ⊢; exact I.le _ _ e
  · obtain ⟨h1, u, h2⟩ := I.owned ow
    have hb : b ≠ a := ne_of_none h2 h
    exact ⟨upd_ne hb, by rw [upd_ne hb]; exact h1⟩
  · have hb : b ≠ a := ne_of_none e h0
    rw [upd_ne hb]; exact I.fr b u e ha
  · have hb : b ≠ a := ne_of_none e h0
    rw [upd_ne hb]; exact I.fs b u e e2
/-- a new object, not shared -/
theorem INV.alloc0 (I : INV K E Hs H σ τ tmp) (h : H a = none) : INV K E Hs (upd H a o) σ τ tmp := by
  have h0 := I.new0 h
  refine I.heap Le.refl (I.le.trans (Le.upd h)) (fun x b ow => ?_) (fun b u e => ⟨fun ha => ?_, fun e2 => I.fs b u e e2⟩)
  · obtain ⟨h1, u, h2⟩ := I.owned ow
    exact ⟨upd_ne (ne_of_none h2 h), h1⟩
  · rw [upd_ne (ne_of_none e h0)]; exact I.fr b u e ha
/-- other slots, other things in hand, the heap the same -/
theorem INV.str (I : INV K E Hs H σ τ tmp) (f : Nat ⊕ Nat → Nat ⊕ Nat) (hl : τ'.length = σ'.length)
    (sl : ∀ (i : Nat) (t : T) (m : Md), τ'[i]? = some (some (t, m)) → ∃ v, σ'[i]? = some (some v) ∧ OK K Hs H t m v) (tm : ∀ (j : Nat) (v : V) (t : T) (m : Md), tmp'[j]? = some (v, t, m) → OK K Hs H t m v)
    (ow : ∀ x a, Ow σ' τ' tmp' x a → Ow σ τ tmp (f x) a) (inj : ∀ x y a, Ow σ' τ' tmp' x a → Ow σ' τ' tmp' y a → f x = f y → x = y)
    (pn : ∀ (i : Nat) (a : Addr), (i, a) ∈ E.pins → σ'[i]? = some (some (.ref a)) ∧ ∃ t, τ'[i]? = some (some (t, .pn))) (pq : ∀ (i : Nat) (t : T), τ'[i]? = some (some (t, .pn)) → ∃ a, (i, a) ∈ E.pins)
    (tp : ∀ (j : Nat) (v : V) (t : T), tmp'[j]? ≠ some (v, t, .pn)) : INV K E Hs H σ' τ' tmp' :=
  ⟨I.le, hl, sl, tm, fun x y a h1 h2 => inj x y a h1 h2 (I.un _ _ a (ow x a h1) (ow y a h2)), I.fr, I.fs, fun x a h => I.fo _ a (ow x a h), I.l0, pn, pq, tp⟩
/-- one more thing in hand, shared -/
theorem INV.push (I : INV K E Hs H σ τ tmp) (r : R K Hs t v) : INV K E Hs H σ τ (tmp ++ [(v, t, .sh)]) := by
  have hj : ∀ (j : Nat) (v' : V) (t' : T) (m' : Md), (tmp ++ [(v, t, Md.sh)])[j]? = some (v', t', m') → tmp[j]? = some (v', t', m') ∨ (v' = v ∧ t' = t ∧ m' = .sh) := fun j v' t' m' e => by
    rw [List.getElem?_append] at e
    split at e
    · exact .inl e
    · refine .inr ?_
      rw [List.getElem?_singleton] at e
      split at e
      · cases e; exact ⟨rfl, rfl, rfl⟩
      · cases e
  refine I.str id I.len I.sl (fun j v' t' m' e => ?_) (fun x b h => ?_) (fun x y b _ _ e => e) I.pn I.pq (fun j v' t' e => ?_)
  · rcases hj j v' t' m' e with e | ⟨rfl, rfl, rfl⟩
    · exact I.tm j v' t' m' e
    · exact r
  · cases x with
    | inl i => exact h
    | inr j =>
      obtain ⟨t', m', e, hm⟩ := h
      rcases hj j _ t' m' e with e | ⟨_, _, rfl⟩
      · exact ⟨t', m', e, hm⟩
      · exact absurd rfl hm
  · rcases hj j v' t' .pn e with e | ⟨_, _, e⟩
    · exact I.tp j v' t' e
    · cases e
/-- things in hand are put away -/
theorem INV.pop {more : Tmp} (I : INV K E Hs H σ τ (tmp ++ more)) : INV K E Hs H σ τ tmp := by
  have hj : ∀ (j : Nat) x, tmp[j]? = some x → (tmp ++ more)[j]? = some x := fun j x e => by
    rw [List.getElem?_append_left]
    · exact e
    · exact (List.getElem?_eq_some_iff.mp e).1
  refine I.str id I.len I.sl (fun j v' t' m' e => I.tm j v' t' m' (hj _ _ e)) (fun x b h => ?_) (fun x y b _ _ e => e) I.pn I.pq (fun j v' t' e => I.tp j v' t' (hj _ _ e))
  cases x with
  | inl i => exact h
  | inr j =>
    obtain ⟨t', m', e, hm⟩ := h
    exact ⟨t', m', hj _ _ e, hm⟩
/-- a new object, owned, in hand -/
theorem INV.allocO (I : INV K E Hs H σ τ tmp) (h : H a = none) (c : CellO K Hs t o) : INV K E Hs (upd H a o) σ τ (tmp ++ [(.ref a, t, .ow)]) := by
  have h0 := I.new0 h
  have hs := I.news h
  have I1 := I.alloc0 (o := o) h
  have hj : ∀ (j : Nat) (v' : V) (t' : T) (m' : Md), (tmp ++ [(V.ref a, t, Md.ow)])[j]? = some (v', t', m') → tmp[j]? = some (v', t', m') ∨ (j = tmp.length ∧ v' = .ref a ∧ t' = t ∧ m' = .ow) := fun j v' t' m' e => by
    rw [List.getElem?_append] at e
    split at e
    · exact .inl e
    · refine .inr ?_
      rename_i hn
      rw [List.getElem?_singleton] at e
      split at e
      · cases e; exact ⟨by omega, rfl, rfl, rfl⟩
      · cases e
  have own : ∀ x b, Ow σ τ (tmp ++ [(V.ref a, t, Md.ow)]) x b → Ow σ τ tmp x b ∨ (x = .inr tmp.length ∧ b = a) := fun x b h => by
    cases x with
    | inl i => exact .inl h
    | inr j =>
      obtain ⟨t', m', e, hm⟩ := h
      rcases hj j _ t' m' e with e | ⟨rfl, e, _, _⟩
      · exact .inl ⟨t', m', e, hm⟩
      · cases e; exact .inr ⟨rfl, rfl⟩
  have no : ∀ x, ¬ Ow σ τ tmp x a := fun x q => by
    obtain ⟨_, u, e⟩ := I.owned q
    rw [h] at e; cases e
  refine ⟨I1.le, I1.len, I1.sl, fun j v' t' m' e => ?_, fun x y b h1 h2 => ?_, I1.fr, I1.fs, fun x b hx u e => ?_, I1.l0, I1.pn, I1.pq, fun j v' t' e => ?_⟩
  · rcases hj j v' t' m' e with e | ⟨_, rfl, rfl, rfl⟩
    · exact I1.tm j v' t' m' e
    · exact ⟨a, o, rfl, hs, upd_same, c⟩
  · rcases own x b h1 with q1 | ⟨e1, d1⟩
    · rcases own y b h2 with q2 | ⟨e2, d2⟩
      · exact I1.un x y b q1 q2
      · rw [d2] at q1; exact absurd q1 (no x)
    · rcases own y b h2 with q2 | ⟨e2, d2⟩
      · rw [d1] at q2; exact absurd q2 (no y)
      · rw [e1, e2]
  · rcases own x b hx with hx | ⟨_, rfl⟩
    · exact I.fo x b hx u e
    · rw [h0] at e; cases e
  · rcases hj j v' t' .pn e with e | ⟨_, _, _, e⟩
    · exact I1.tp j v' t' e
    · cases e
/-- what is in hand, owned, becomes shared -/
theorem INV.absorb (I : INV K E Hs H σ τ (tmp ++ [(v, t, m)])) : ∃ Hs', Le Hs Hs' ∧ INV K E Hs' H σ τ (tmp ++ [(v, t, .sh)]) := by
  have top : (tmp ++ [(v, t, m)])[tmp.length]? = some (v, t, m) := by simp
  cases m with
  | sh => exact ⟨Hs, Le.refl, I⟩
  | pn => exact absurd top (I.tp _ _ _)
  | ow =>
    obtain ⟨a, o, ev, h1, h2, c⟩ := I.tm _ _ _ _ top
    subst ev
    have own : Ow σ τ (tmp ++ [(V.ref a, t, Md.ow)]) (.inr tmp.length) a := ⟨t, .ow, top, by decide⟩
    have h0 : ∀ u, E.H0 a = some u → False := fun u e => by
      obtain ⟨i, hi⟩ := I.fo _ _ own u e
      obtain ⟨e1, t', e2⟩ := I.pn i a hi
      have := I.un _ _ a own (show Ow σ τ _ (.inl i) a from ⟨e1, t', .pn, e2, by decide⟩)
      cases this
    have I1 : INV K E Hs H σ τ tmp := I.pop
    have no : ∀ x b, Ow σ τ tmp x b → b ≠ a := fun x b q e => by
      subst e
      cases x with
      | inl i =>
        have := I.un _ _ b own (show Ow σ τ (tmp ++ [(V.ref b, t, Md.ow)]) (.inl i) b from q)
        cases this
      | inr j =>
        obtain ⟨t', m', e, hm⟩ := q
        have hj := (List.getElem?_eq_some_iff.mp e).1
        have := I.un _ _ b own (show Ow σ τ (tmp ++ [(V.ref b, t, Md.ow)]) (.inr j) b from ⟨t', m', by rw [List.getElem?_append_left hj]; exact e, hm⟩)
        cases this
        omega
    have I2 : INV K E (upd Hs a o) H σ τ tmp := by
      refine I1.heap (Le.upd h1) (fun b u e => ?_) (fun x b q => ⟨rfl, ?_⟩) (fun b u e => ⟨fun ha => I1.fr b u e ha, fun e2 => ?_⟩)
      · by_cases hb : b = a
        · subst hb; rw [upd_same] at e; cases e; exact h2
        · rw [upd_ne hb] at e; exact I1.le _ _ e
      · rw [upd_ne (no x b q)]; exact (I1.owned q).1
      · by_cases hb : b = a
        · subst hb; exact (h0 u e).elim
        · rw [upd_ne hb]; exact I1.fs b u e e2
    exact ⟨upd Hs a o, Le.upd h1, I2.push (R.ofCell upd_same (c.mono (Le.upd h1)))⟩
/-- .. a slot's -/
theorem INV.demote (I : INV K E Hs H σ τ tmp) {i : Nat} (e : τ[i]? = some (some (t, m))) (hm : m ≠ .pn) : ∃ Hs', Le Hs Hs' ∧ INV K E Hs' H σ (τ.set i (some (t, .sh))) tmp := by
  have hi : i < τ.length := (List.getElem?_eq_some_iff.mp e).1
  have hset : ∀ (j : Nat) t' m', (τ.set i (some (t, Md.sh)))[j]? = some (some (t', m')) → (j = i ∧ t' = t ∧ m' = .sh) ∨ (j ≠ i ∧ τ[j]? = some (some (t', m'))) := fun j t' m' q => by
    by_cases hj : i = j
    · subst hj
      rw [List.getElem?_set_self hi] at q
      cases q
      exact .inl ⟨rfl, rfl, rfl⟩
    · rw [List.getElem?_set_ne hj] at q
      exact .inr ⟨fun z => hj z.symm, q⟩
  -- the slots without this one
  have I1 : INV K E Hs H σ (τ.set i none) tmp := by
    have hs0 : ∀ (j : Nat) t' m', (τ.set i none)[j]? = some (some (t', m')) → j ≠ i ∧ τ[j]? = some (some (t', m')) := fun j t' m' q => by
      by_cases hj : i = j
      · subst hj
        rw [List.getElem?_set_self hi] at q
        cases q
      · rw [List.getElem?_set_ne hj] at q
        exact ⟨fun z => hj z.symm, q⟩
    refine I.str id (by rw [List.length_set]; exact I.len) (fun j t' m' q => I.sl j t' m' (hs0 j t' m' q).2) I.tm (fun x b h => ?_) (fun x y b _ _ e => e) (fun j b hb => ?_) (fun j t' q => I.pq j t' (hs0 j t' _ q).2) I.tp
    · cases x with
      | inl j =>
        obtain ⟨e1, t', m', e2, hm'⟩ := h
        exact ⟨e1, t', m', (hs0 j t' m' e2).2, hm'⟩
      | inr j => exact h
    · obtain ⟨e1, t', e2⟩ := I.pn j b hb
      refine ⟨e1, t', ?_⟩
      by_cases hj : i = j
      · subst hj; rw [e] at e2; cases e2; exact absurd rfl hm
      · rw [List.getElem?_set_ne hj]; exact e2
  obtain ⟨v, ev, k⟩ := I.sl i t m e
  have fin : ∀ Hs', Le Hs Hs' → INV K E Hs' H σ (τ.set i none) tmp → R K Hs' t v → INV K E Hs' H σ (τ.set i (some (t, .sh))) tmp := fun Hs' l J r => by
    have hsn : ∀ (j : Nat) t' m', j ≠ i → τ[j]? = some (some (t', m')) → (τ.set i none)[j]? = some (some (t', m')) := fun j t' m' hj q => by rw [List.getElem?_set_ne (fun z => hj z.symm)]; exact q
    refine J.str id (by rw [List.length_set]; exact I.len) (fun j t' m' q => ?_) J.tm (fun x b h => ?_) (fun x y b _ _ e => e) (fun j b hb => ?_) (fun j t' q => ?_) J.tp
    · rcases hset j t' m' q with ⟨rfl, rfl, rfl⟩ | ⟨hj, q⟩
      · exact ⟨v, ev, r⟩
      · exact J.sl j t' m' (hsn j t' m' hj q)
    · cases x with
      | inl j =>
        obtain ⟨e1, t', m', e2, hm'⟩ := h
        rcases hset j t' m' e2 with ⟨_, _, z⟩ | ⟨hj, q⟩
        · exact absurd z hm'
        · exact ⟨e1, t', m', hsn j t' m' hj q, hm'⟩
      | inr j => exact h
    · obtain ⟨e1, t', e2⟩ := I.pn j b hb
      refine ⟨e1, t', ?_⟩
      by_cases hj : i = j
      · subst hj; rw [e] at e2; cases e2; exact absurd rfl hm
      · rw [List.getElem?_set_ne hj]; exact e2
    · rcases hset j t' .pn q with ⟨_, _, z⟩ | ⟨hj, q⟩
      · cases z
      · exact I.pq j t' q
  cases m with
  | sh => exact ⟨Hs, Le.refl, fin Hs Le.refl I1 k⟩
  | pn => exact absurd rfl hm
  | ow =>
    obtain ⟨a, o, ea, h1, h2, c⟩ := k
    subst ea
    have own : Ow σ τ tmp (.inl i) a := ⟨ev, t, .ow, e, by decide⟩
    have h0 : ∀ u, E.H0 a = some u → False := fun u eu => by
      obtain ⟨j, hj⟩ := I.fo _ _ own u eu
      obtain ⟨e1, t', e2⟩ := I.pn j a hj
      have := I.un _ _ a own (show Ow σ τ _ (.inl j) a from ⟨e1, t', .pn, e2, by decide⟩)
      cases this
      rw [e] at e2; cases e2
    have up : ∀ x b, Ow σ (τ.set i none) tmp x b → Ow σ τ tmp x b ∧ x ≠ .inl i := fun x b q => by
      cases x with
      | inl j =>
        obtain ⟨e1, t', m', e2, hm'⟩ := q
        by_cases hj : i = j
        · subst hj; rw [List.getElem?_set_self hi] at e2; cases e2
        · rw [List.getElem?_set_ne hj] at e2
          exact ⟨⟨e1, t', m', e2, hm'⟩, fun z => by cases z; exact hj rfl⟩
      | inr j => exact ⟨q, fun z => by cases z⟩
    have no : ∀ x b, Ow σ (τ.set i none) tmp x b → b ≠ a := fun x b q z => by
      subst z
      obtain ⟨q1, q2⟩ := up x b q
      exact q2 (I.un _ _ b q1 own)
    have I2 : INV K E (upd Hs a o) H σ (τ.set i none) tmp := by
      refine I1.heap (Le.upd h1) (fun b u e => ?_) (fun x b q => ⟨rfl, ?_⟩) (fun b u e => ⟨fun ha => I1.fr b u e ha, fun e2 => ?_⟩)
      · by_cases hb : b = a
        · subst hb; rw [upd_same] at e; cases e; exact h2
        · rw [upd_ne hb] at e; exact I1.le _ _ e
      · rw [upd_ne (no x b q)]; exact (I1.owned q).1
      · by_cases hb : b = a
        · subst hb; exact (h0 u e).elim
        · rw [upd_ne hb]; exact I1.fs b u e e2
    exact ⟨upd Hs a o, Le.upd h1, fin _ (Le.upd h1) I2 (R.ofCell upd_same (c.mono (Le.upd h1)))⟩
/-- what is in hand goes into a slot -/
theorem INV.store {i : Nat} (I : INV K E Hs H σ τ (tmp ++ [(v, t, m)])) (hi : i < τ.length) (hp : ∀ t', τ[i]? ≠ some (some (t', .pn))) : INV K E Hs H (σ.set i (some v)) (τ.set i (some (t, m))) tmp := by
  have top : (tmp ++ [(v, t, m)])[tmp.length]? = some (v, t, m) := by simp
  have hs : i < σ.length := by rw [← I.len]; exact hi
  have hset : ∀ (j : Nat) t' m', (τ.set i (some (t, m)))[j]? = some (some (t', m')) → (j = i ∧ t' = t ∧ m' = m) ∨ (j ≠ i ∧ τ[j]? = some (some (t', m'))) := fun j t' m' q => by
    by_cases hj : i = j
    · subst hj
      rw [List.getElem?_set_self hi] at q
      cases q
      exact .inl ⟨rfl, rfl, rfl⟩
    · rw [List.getElem?_set_ne hj] at q
      exact .inr ⟨fun z => hj z.symm, q⟩
  have low : ∀ (j : Nat) x, tmp[j]? = some x → (tmp ++ [(v, t, m)])[j]? = some x := fun j x e => by
    rw [List.getElem?_append_left (List.getElem?_eq_some_iff.mp e).1]; exact e
  have pni : ∀ j b, (j, b) ∈ E.pins → j ≠ i := fun j b hb z => by
    subst z
    obtain ⟨_, t', e2⟩ := I.pn j b hb
    exact hp t' e2
  refine I.str (fun x => if x = .inl i then .inr tmp.length else x) (by rw [List.length_set, List.length_set]; exact I.len) (fun j t' m' q => ?_) (fun j v' t' m' e => I.tm j v' t' m' (low _ _ e)) (fun x b h => ?_) (fun x y b h1 h2 e => ?_) (fun j b hb => ?_) (fun j t' q => ?_) (fun j v' t' e => I.tp j v' t' (low _ _ e))
  · rcases hset j t' m' q with ⟨rfl, rfl, rfl⟩ | ⟨hj, q⟩
    · exact ⟨v, List.getElem?_set_self hs, I.tm _ _ _ _ top⟩
    · obtain ⟨w, e1, k⟩ := I.sl j t' m' q
      exact ⟨w, by rw [List.getElem?_set_ne (fun z => hj z.symm)]; exact e1, k⟩
  · cases x with
    | inl j =>
      obtain ⟨e1, t', m', e2, hm'⟩ := h
      rcases hset j t' m' e2 with ⟨rfl, rfl, rfl⟩ | ⟨hj, q⟩
      · rw [List.getElem?_set_self hs] at e1
        rw [if_pos rfl]
        cases e1
        exact ⟨_, _, top, hm'⟩
      · rw [List.getElem?_set_ne (fun z => hj z.symm)] at e1
        rw [if_neg (fun z => by cases z; exact hj rfl)]
        exact ⟨e1, t', m', q, hm'⟩
    | inr j =>
      obtain ⟨t', m', e, hm'⟩ := h
      rw [if_neg (fun z => by cases z)]
      exact ⟨t', m', low _ _ e, hm'⟩
  · have hb : ∀ z : Nat ⊕ Nat, Ow (σ.set i (some v)) (τ.set i (some (t, m))) tmp z b → z ≠ .inr tmp.length := fun z q e => by
      subst e
      obtain ⟨t', m', e, _⟩ := q
      have := (List.getElem?_eq_some_iff.mp e).1
      omega
    by_cases hx : x = .inl i
    · by_cases hy : y = .inl i
      · rw [hx, hy]
      · simp only [hx, if_true, hy, if_false] at e
        exact absurd e.symm (hb y h2)
    · by_cases hy : y = .inl i
      · simp only [hy, if_true, hx, if_false] at e
        exact absurd e (hb x h1)
      · simp only [hx, hy, if_false] at e
        exact e
  · obtain ⟨e1, t', e2⟩ := I.pn j b hb
    have hj := pni j b hb
    exact ⟨by rw [List.getElem?_set_ne (fun z => hj z.symm)]; exact e1, t', by rw [List.getElem?_set_ne (fun z => hj z.symm)]; exact e2⟩
  · rcases hset j t' .pn q with ⟨_, _, z⟩ | ⟨hj, q⟩
    · subst z
      exact absurd top (I.tp _ _ _)
    · exact I.pq j t' q
/-- a slot is forgotten -/
theorem INV.forget {i : Nat} {x : Option V} (I : INV K E Hs H σ τ tmp) (hp : ∀ t', τ[i]? ≠ some (some (t', .pn))) : INV K E Hs H (σ.set i x) (τ.set i none) tmp := by
  have hset : ∀ (j : Nat) t' m', (τ.set i none)[j]? = some (some (t', m')) → j ≠ i ∧ τ[j]? = some (some (t', m')) := fun j t' m' q => by
    by_cases hj : i = j
    · subst hj
      by_cases hi : i < τ.length
      · rw [List.getElem?_set_self hi] at q; cases q
      · rw [List.getElem?_eq_none (by simpa using hi)] at q; cases q
    · rw [List.getElem?_set_ne hj] at q
      exact ⟨fun z => hj z.symm, q⟩
  refine I.str id (by rw [List.length_set, List.length_set]; exact I.len) (fun j t' m' q => ?_) I.tm (fun y b h => ?_) (fun x y b _ _ e => e) (fun j b hb => ?_) (fun j t' q => I.pq j t' (hset j t' _ q).2) I.tp
  · obtain ⟨hj, q⟩ := hset j t' m' q
    obtain ⟨w, e1, k⟩ := I.sl j t' m' q
    exact ⟨w, by rw [List.getElem?_set_ne (fun z => hj z.symm)]; exact e1, k⟩
  · cases y with
    | inl j =>
      obtain ⟨e1, t', m', e2, hm'⟩ := h
      obtain ⟨hj, q⟩ := hset j t' m' e2
      rw [List.getElem?_set_ne (fun z => hj z.symm)] at e1
      exact ⟨e1, t', m', q, hm'⟩
    | inr j => exact h
  · obtain ⟨e1, t', e2⟩ := I.pn j b hb
    have hj : i ≠ j := fun z => by subst z; exact hp t' e2
    exact ⟨by rw [List.getElem?_set_ne hj]; exact e1, t', by rw [List.getElem?_set_ne hj]; exact e2⟩
/-- an owned slot's object is changed -/
theorem INV.write {i : Nat} {t' : T} (I : INV K E Hs H σ τ tmp) (e : τ[i]? = some (some (t, m))) (ev : σ[i]? = some (some (.ref a))) (hm : m ≠ .sh) (c : CellO K Hs t' o) : INV K E Hs (upd H a o) σ (τ.set i (some (t', m))) tmp := by
  have hi : i < τ.length := (List.getElem?_eq_some_iff.mp e).1
  have own : Ow σ τ tmp (.inl i) a := ⟨ev, t, m, e, hm⟩
  have hs : Hs a = none := (I.owned own).1
  have hset : ∀ (j : Nat) u m', (τ.set i (some (t', m)))[j]? = some (some (u, m')) → (j = i ∧ u = t' ∧ m' = m) ∨ (j ≠ i ∧ τ[j]? = some (some (u, m'))) := fun j u m' q => by
    by_cases hj : i = j
    · subst hj
      rw [List.getElem?_set_self hi] at q
      cases q
      exact .inl ⟨rfl, rfl, rfl⟩
    · rw [List.getElem?_set_ne hj] at q
      exact .inr ⟨fun z => hj z.symm, q⟩
  have ow : ∀ x b, Ow σ (τ.set i (some (t', m))) tmp x b → Ow σ τ tmp x b := fun x b h => by
    cases x with
    | inl j =>
      obtain ⟨e1, u, m', e2, hm'⟩ := h
      rcases hset j u m' e2 with ⟨rfl, rfl, rfl⟩ | ⟨hj, q⟩
      · exact ⟨e1, t, m', e, hm'⟩
      · exact ⟨e1, u, m', q, hm'⟩
    | inr j => exact h
  have ok : ∀ {u m' v}, (m' ≠ .sh → ∀ b, v = .ref b → b ≠ a) → OK K Hs H u m' v → OK K Hs (upd H a o) u m' v := fun {u m' v} hx k => by
    by_cases h : m' = .sh
    · subst h; exact k
    · obtain ⟨b, p, eb, h1, h2, c'⟩ := (OK.own h).mp k
      exact (OK.own h).mpr ⟨b, p, eb, h1, by rw [upd_ne (hx h b eb)]; exact h2, c'⟩
  refine ⟨fun b u q => ?_, by rw [List.length_set]; exact I.len, fun j u m' q => ?_, fun j v' u m' q => ?_, fun x y b h1 h2 => I.un x y b (ow x b h1) (ow y b h2), fun b u q ha => ?_, I.fs, fun x b h => I.fo x b (ow x b h), I.l0, fun j b hb => ?_, fun j u q => ?_, I.tp⟩
  · rw [upd_ne (fun z => by subst z; rw [hs] at q; cases q)]; exact I.le _ _ q
  · rcases hset j u m' q with ⟨rfl, rfl, rfl⟩ | ⟨hj, q⟩
    · exact ⟨_, ev, (OK.own hm).mpr ⟨a, o, rfl, hs, upd_same, c⟩⟩
    · obtain ⟨w, e1, k⟩ := I.sl j u m' q
      refine ⟨w, e1, ok (fun h b eb z => ?_) k⟩
      subst z; subst eb
      have := I.un _ _ b own (show Ow σ τ tmp (.inl j) b from ⟨e1, u, m', q, h⟩)
      cases this
      exact hj rfl
  · refine ok (fun h b eb z => ?_) (I.tm j v' u m' q)
    subst z; subst eb
    have := I.un _ _ b own (show Ow σ τ tmp (.inr j) b from ⟨u, m', q, h⟩)
    cases this
  · rw [upd_ne (fun z => ?_)]
    · exact I.fr b u q ha
    · subst z
      exact ha (I.fo _ _ own u q)
  · obtain ⟨e1, u, e2⟩ := I.pn j b hb
    refine ⟨e1, ?_⟩
    by_cases hj : i = j
    · subst hj
      rw [e] at e2; cases e2
      exact ⟨t', List.getElem?_set_self hi⟩
    · exact ⟨u, by rw [List.getElem?_set_ne hj]; exact e2⟩
  · rcases hset j u .pn q with ⟨rfl, rfl, hh⟩ | ⟨hj, q⟩
    · subst hh
      exact I.pq j t e
    · exact I.pq j u q
end
end Z

set_option Elab.async false
set_option linter.all false
set_option maxRecDepth 100000
set_option maxHeartbeats 1000000
/-! Z2: readings over trees; names, operands, operators. -/
namespace Z
open PySem PySem.Spec PyProof.Rows L2

abbrev WV := PSt → (T → PSt → Prop) → Prop
abbrev WE := PSt → (T → Md → PSt → Prop) → Prop
abbrev WB := PSt → (Bool → PSt → Prop) → Prop
def tV (K : PySem.W.Frag) (w : WV) : TE := fun σ H Q => ∃ E Hs τ tmp PQ, INV K E Hs H σ τ tmp ∧ w τ PQ ∧
  ∀ Hs' H' τ' t v, INV K E Hs' H' σ τ' (tmp ++ [(v, t, .sh)]) → PQ t τ' → Q v H'
def tE (K : PySem.W.Frag) (w : WE) : TE := fun σ H Q => ∃ E Hs τ tmp PQ, INV K E Hs H σ τ tmp ∧ w τ PQ ∧
  ∀ Hs' H' τ' t m v, INV K E Hs' H' σ τ' (tmp ++ [(v, t, m)]) → PQ t m τ' → Q v H'
def tW (K : PySem.W.Frag) (w : WB) : TT := fun σ H Q => ∃ E Hs τ tmp PQ, INV K E Hs H σ τ tmp ∧ w τ PQ ∧
  ∀ Hs' H' τ' b, INV K E Hs' H' σ τ' tmp → PQ b τ' → Q b H'
abbrev LV (X : Cx) (e : Expr) (w : WV) : Prop := PE X e (tV X.K w)
abbrev LE (X : Cx) (e : Expr) (w : WE) : Prop := PE X e (tE X.K w)
abbrev LB (X : Cx) (e : Expr) (w : WB) : Prop := PT X e (tW X.K w)
theorem _root_.L2.PE.imp {X : Cx} {e : Expr} {t t' : TE} (h : PE X e t') (i : ∀ σ H Q, t σ H Q → t' σ H Q) : PE X e t := ⟨fun pins s σ H Q I hw => h.run pins s σ H Q I (i σ H Q hw)⟩
theorem _root_.L2.PT.imp {X : Cx} {e : Expr} {t t' : TT} (h : PT X e t') (i : ∀ σ H Q, t σ H Q → t' σ H Q) : PT X e t := ⟨fun pins s σ H Q I hw => h.run pins s σ H Q I (i σ H Q hw)⟩
theorem _root_.L2.PW.imp {X : Cx} {e : Expr} {t t' : TT} (h : PW X e t') (i : ∀ σ H Q, t σ H Q → t' σ H Q) : PW X e t := ⟨fun wh pins s σ H Q I hw => h.run wh pins s σ H Q I (i σ H Q hw)⟩
/-- owned results made shared -/
@[simp] def wSh (w : WE) (τ : PSt) (Q : T → PSt → Prop) : Prop := w τ fun t _ τ' => Q t τ'
@[simp] def wUn (w : WV) (τ : PSt) (Q : T → Md → PSt → Prop) : Prop := w τ fun t τ' => Q t .sh τ'
section
variable {X : Cx} {e : Expr} {pos : Pos}
theorem _root_.L2.PE.lv {w : WE} (h : LE X e w) : LV X e (wSh w) := h.imp fun σ H Q hw => by
  obtain ⟨E, Hs, τ, tmp, PQ, I, hw, hq⟩ := hw
  refine ⟨E, Hs, τ, tmp, _, I, hw, fun Hs' H' τ' t m v I' p => ?_⟩
  obtain ⟨Hs2, _, I2⟩ := I'.absorb
  exact hq Hs2 H' τ' t v I2 p
theorem _root_.L2.PE.le {w : WV} (h : LV X e w) : LE X e (wUn w) := h.imp fun σ H Q hw => by
  obtain ⟨E, Hs, τ, tmp, PQ, I, hw, hq⟩ := hw
  exact ⟨E, Hs, τ, tmp, _, I, hw, fun Hs' H' τ' t v I' p => hq Hs' H' τ' t .sh v I' p⟩

/-! ### constants, names -/
@[simp] def wC (t : T) (τ : PSt) (Q : T → PSt → Prop) : Prop := Q t τ
theorem lv_c {t : T} {v : V} (h : PE X e (tC v)) (r : ∀ K H, R K H t v) : LV X e (wC t) := h.imp fun σ H Q hw => by
  obtain ⟨E, Hs, τ, tmp, PQ, I, hw, hq⟩ := hw
  exact hq Hs H τ t v (I.push (r _ _)) hw
theorem lv_int {i : Int} {j} : LV X (.Constant (.int i) j pos) (wC (.int i)) := lv_c pe_int fun _ _ => by simp only [R]
theorem lv_bl {b : Bool} {j} : LV X (.Constant (.bool b) j pos) (wC (.bl b)) := lv_c pe_bl fun _ _ => by simp only [R]
theorem lv_non {j} : LV X (.Constant .none j pos) (wC .non) := lv_c pe_non fun _ _ => by simp only [R]
theorem lv_str {x : Str} {j} : LV X (.Constant (.str x) j pos) (wC (.str x)) := lv_c pe_str fun _ _ => by simp only [R]
/-- a module's int -/
theorem lv_gint {x : Str} {i : Int} (hg : Gl X x) (hm : ∃ t, X.mg x = some (.int i t)) (hd : (x == ("__debug__" : Str)) = false := by decide) : LV X (.Name x pos) (wC (.int i)) := by
  obtain ⟨t, hm⟩ := hm
  exact lv_c (v := .int i) (pe_glob hg hm ⟨t, rfl⟩ hd) fun _ _ => by simp only [R]
theorem lv_gstr {x z : Str} (hg : Gl X x) (hm : ∃ t, X.mg x = some (.str z t)) (hd : (x == ("__debug__" : Str)) = false := by decide) : LV X (.Name x pos) (wC (.str z)) := by
  obtain ⟨t, hm⟩ := hm
  exact lv_c (v := .str z) (pe_glob hg hm ⟨t, rfl⟩ hd) fun _ _ => by simp only [R]
/-- a name whose value goes on: what is owned becomes shared -/
@[simp] def wNm (i : Nat) (τ : PSt) (Q : T → PSt → Prop) : Prop := match τ[i]? with
  | some (some (t, .sh)) => Q t τ
  | some (some (t, .ow)) => Q t (τ.set i (some (t, .sh)))
  | _ => False
theorem lv_nm {i : Nat} {x : Str} (hN : X.N[i]? = some x) (hv : Vis X.env.scope x) (hd : (x == ("__debug__" : Str)) = false := by decide) (hcd : (x == ("__classdict__" : Str)) = false := by decide) : LV X (.Name x pos) (wNm i) :=
  (pe_var hN hv hd hcd).imp fun σ H Q hw => by
    obtain ⟨E, Hs, τ, tmp, PQ, I, hw, hq⟩ := hw
    unfold wNm at hw
    split at hw
    · rename_i t e
      obtain ⟨v, e1, k⟩ := I.sl i t .sh e
      exact ⟨v, e1, hq Hs H τ t v (I.push k) hw⟩
    · rename_i t e
      obtain ⟨v, e1, k⟩ := I.sl i t .ow e
      obtain ⟨Hs2, _, I2⟩ := I.demote e (by decide)
      have hi : i < τ.length := (List.getElem?_eq_some_iff.mp e).1
      obtain ⟨v2, e2, k2⟩ := I2.sl i t .sh (List.getElem?_set_self hi)
      rw [e1] at e2; cases e2
      exact ⟨v, e1, hq Hs2 H _ t v (I2.push k2) hw⟩
    · exact hw.elim
end

/-! ### operands: names are looked at last -/
inductive Opd where
  | sl (i : Nat)
  | ex (w : WV)
def tO (K : PySem.W.Frag) : Opd → TE
  | .sl i => tVar i
  | .ex w => tV K w
def tOs (K : PySem.W.Frag) : List Opd → TA
  | [] => tNil
  | o :: r => tCons (tO K o) (tOs K r)
@[simp] def look (τ : PSt) (i : Nat) (k : T → Prop) : Prop := match τ[i]? with
  | some (some (t, _)) => k t
  | _ => False
@[simp] def wOs : List Opd → PSt → (List T → PSt → Prop) → Prop
  | [], τ, Q => Q [] τ
  | .sl i :: r, τ, Q => look τ i fun _ => wOs r τ fun ts τ' => look τ' i fun t => Q (t :: ts) τ'
  | .ex w :: r, τ, Q => w τ fun t τ1 => wOs r τ1 fun ts τ' => Q (t :: ts) τ'
/-- a tree that one may look at: shared, or an object that one owns -/
def Vw (K : PySem.W.Frag) (Hs H : Hp) (t : T) (v : V) : Prop := R K Hs t v ∨ ∃ a o, v = .ref a ∧ H a = some o ∧ CellO K Hs t o
def VwL (K : PySem.W.Frag) (Hs H : Hp) : List T → List V → Prop
  | [], vs => vs = []
  | t :: ts, vs => ∃ v r, vs = v :: r ∧ Vw K Hs H t v ∧ VwL K Hs H ts r
theorem OK.vw {K : PySem.W.Frag} {Hs H : Hp} {t : T} {m : Md} {v : V} (h : OK K Hs H t m v) : Vw K Hs H t v := by
  cases m
  · exact .inl h
  · obtain ⟨a, o, e, _, h2, c⟩ := h
    exact .inr ⟨a, o, e, h2, c⟩
  · obtain ⟨a, o, e, _, h2, c⟩ := h
    exact .inr ⟨a, o, e, h2, c⟩
theorem opds {K : PySem.W.Frag} {E : Ent} {σ : L2.St} : ∀ (os : List Opd) {Hs H : Hp} {τ : PSt} {tmp : Tmp} {PQ : List T → PSt → Prop} {Q : List V → Hp → Prop}, INV K E Hs H σ τ tmp → wOs os τ PQ →
    (∀ Hs' H' τ' tmp' ts vs, INV K E Hs' H' σ τ' (tmp ++ tmp') → VwL K Hs' H' ts vs → PQ ts τ' → Q vs H') → tOs K os σ H Q
  | [], Hs, H, τ, tmp, PQ, Q, I, h, k => k Hs H τ [] [] [] (by simpa using I) rfl h
  | .sl i :: r, Hs, H, τ, tmp, PQ, Q, I, h, k => by
    have h : look τ i fun _ => wOs r τ fun ts τ' => look τ' i fun t => PQ (t :: ts) τ' := h
    unfold look at h
    split at h
    · rename_i t m e
      obtain ⟨v, e1, _⟩ := I.sl i t m e
      refine ⟨v, e1, opds r I h fun Hs' H' τ' tmp' ts vs I' vw p => ?_⟩
      simp only [] at p
      split at p
      · rename_i t' m' e'
        obtain ⟨v', e2, k2⟩ := I'.sl i t' m' e'
        rw [e1] at e2; cases e2
        exact k Hs' H' τ' tmp' (t' :: ts) (v :: vs) I' ⟨v, vs, rfl, k2.vw, vw⟩ p
      · exact p.elim
    · exact h.elim
  | .ex w :: r, Hs, H, τ, tmp, PQ, Q, I, h, k => by
    have h : w τ fun t τ1 => wOs r τ1 fun ts τ' => PQ (t :: ts) τ' := h
    refine ⟨E, Hs, τ, tmp, _, I, h, fun Hs1 H1 τ1 t v I1 p => ?_⟩
    refine opds r I1 p fun Hs' H' τ' tmp' ts vs I' vw p' => ?_
    have et : ((tmp ++ [(v, t, Md.sh)]) ++ tmp')[tmp.length]? = some (v, t, .sh) := by simp
    exact k Hs' H' τ' ([(v, t, .sh)] ++ tmp') (t :: ts) (v :: vs) (by rw [← List.append_assoc]; exact I') ⟨v, vs, rfl, .inl (I'.tm _ _ _ _ et), vw⟩ p'
abbrev LO (X : Cx) (e : Expr) (o : Opd) : Prop := PE X e (tO X.K o)
theorem lo_nm {X : Cx} {i : Nat} {x : Str} {pos : Pos} (hN : X.N[i]? = some x) (hv : Vis X.env.scope x) (hd : (x == ("__debug__" : Str)) = false := by decide) (hcd : (x == ("__classdict__" : Str)) = false := by decide) : LO X (.Name x pos) (.sl i) := pe_var hN hv hd hcd
theorem _root_.L2.PE.lo {X : Cx} {e : Expr} {w : WV} (h : LV X e w) : LO X e (.ex w) := h
/-- the result of an operation over trees -/
abbrev WOp := List T → (T → Md → Prop) → Prop
@[simp] def wOp (op : WOp) (os : List Opd) (τ : PSt) (Q : T → Md → PSt → Prop) : Prop := wOs os τ fun ts τ' => op ts fun t m => Q t m τ'
/-- an operation over trees is carried by a reading over values -/
def OpS (K : PySem.W.Frag) (op : WOp) (r : List V → Hp → VK → Prop) : Prop :=
  ∀ {E : Ent} {Hs H : Hp} {σ : L2.St} {τ : PSt} {tmp : Tmp} {ts : List T} {vs : List V} {P : T → Md → Prop} {Q : VK}, INV K E Hs H σ τ tmp → VwL K Hs H ts vs → op ts P →
    (∀ Hs' H' t m v, INV K E Hs' H' σ τ (tmp ++ [(v, t, m)]) → P t m → Q v H') → r vs H Q
theorem le_op {X : Cx} {e : Expr} {os : List Opd} {op : WOp} {r : List V → Hp → VK → Prop} (h : PE X e (fun σ H Q => tOs X.K os σ H fun vs H1 => r vs H1 Q)) (s : OpS X.K op r) : LE X e (wOp op os) := h.imp fun σ H Q hw => by
  obtain ⟨E, Hs, τ, tmp, PQ, I, hw, hq⟩ := hw
  refine opds os I hw fun Hs1 H1 τ1 tmp1 ts vs I1 vw p => ?_
  refine s I1.pop vw p fun Hs2 H2 t m v I2 p2 => ?_
  exact hq Hs2 H2 τ1 t m v I2 p2
/-- two operands, from a rule for two values -/
@[simp] def r2l (r : R2) : List V → Hp → VK → Prop := fun vs H Q => match vs with
  | [x, y] => r x y H Q
  | _ => False
@[simp] def r1l (r : V → Hp → VK → Prop) : List V → Hp → VK → Prop := fun vs H Q => match vs with
  | [x] => r x H Q
  | _ => False
section
variable {X : Cx} {a b e : Expr} {pos : Pos} {oa ob : Opd}
theorem le_bin {o : Operator} {r : R2} {op : WOp} (s : OpS X.K op (r2l r)) (ho : OpR X (binaryOp o) r) (ha : LO X a oa) (hb : LO X b ob) : LE X (.BinOp a o b pos) (wOp op [oa, ob]) :=
  le_op (pe_op ho ha hb) s
theorem le_un {o : UnaryOp} {r : V → Hp → VK → Prop} {op : WOp} (s : OpS X.K op (r1l r)) (ho : UnR X (unaryOp o) r) (ha : LO X a oa) : LE X (.UnaryOp o a pos) (wOp op [oa]) :=
  le_op (pe_un ho ha) s
theorem le_cmp {o : CmpOp} {r : R2} {op : WOp} (s : OpS X.K op (r2l r)) (ho : OpR X (compareOp o) r) (hm : behindInMarks o b = false) (ha : LO X a oa) (hb : LO X b ob) : LE X (.Compare a [o] [b] pos) (wOp op [oa, ob]) :=
  le_op (pe_cmpR ho ha hb hm) s
/-- .. as a test -/
@[simp] def wTst (w : WE) (τ : PSt) (Q : Bool → PSt → Prop) : Prop := w τ fun t _ τ' => match t with
  | .bl b => Q b τ'
  | _ => False
theorem R.bl {K : PySem.W.Frag} {H : Hp} {b : Bool} {v : V} : R K H (.bl b) v ↔ v = .bl b := by simp only [R]
theorem R.int {K : PySem.W.Frag} {H : Hp} {b : Int} {v : V} : R K H (.int b) v ↔ v = .int b := by simp only [R]
theorem OK.bl {K : PySem.W.Frag} {Hs H : Hp} {b : Bool} {m : Md} {v : V} (h : OK K Hs H (.bl b) m v) : v = .bl b := by
  cases m
  · exact R.bl.mp (show R K Hs (.bl b) v from h)
  · obtain ⟨_, _, _, _, _, c⟩ := h; exact c.elim
  · obtain ⟨_, _, _, _, _, c⟩ := h; exact c.elim
theorem tst_of {K : PySem.W.Frag} {te : TE} {w : WE} (h : ∀ σ H Q, tE K w σ H Q → te σ H Q) : ∀ σ H Q, tW K (wTst w) σ H Q → tTest te σ H Q := fun σ H Q hw => by
  obtain ⟨E, Hs, τ, tmp, PQ, I, hw, hq⟩ := hw
  refine h σ H _ ⟨E, Hs, τ, tmp, _, I, hw, fun Hs' H' τ' t m v I' p => ?_⟩
  have et : (tmp ++ [(v, t, m)])[tmp.length]? = some (v, t, m) := by simp
  cases t <;> first | exact p.elim | skip
  rename_i c
  exact ⟨c, (I'.tm _ _ _ _ et).bl, hq Hs' H' τ' c I'.pop p⟩
theorem lb_cmp {o : CmpOp} {r : R2} {op : WOp} (s : OpS X.K op (r2l r)) (ho : OpR X (compareOp o) r) (hm : behindInMarks o b = false) (ha : LO X a oa) (hb : LO X b ob) : LB X (.Compare a [o] [b] pos) (wTst (wOp op [oa, ob])) := by
  refine PT.imp (pt_cmpR ho ha hb hm) (tst_of fun σ H Q hw => ?_)
  obtain ⟨E, Hs, τ, tmp, PQ, I, hw, hq⟩ := hw
  refine opds (K := X.K) [oa, ob] (Q := fun vs H1 => r2l r vs H1 Q) I hw fun Hs1 H1 τ1 tmp1 ts vs I1 vw p => ?_
  exact s I1.pop vw p fun Hs2 H2 t m v I2 p2 => hq Hs2 H2 τ1 t m v I2 p2
theorem lb_val {w : WE} (h : LE X e w) (he : ∀ whole, isTrue e X.env whole = (do let v ← whole; standAt e.pos; holding [v] (truthy v)) := by intro _; rfl) : LB X e (wTst w) :=
  PT.imp (pt_val h he) (tst_of fun _ _ _ q => q)
/-- a test that stands alone, or one of several joined -/
abbrev LW (X : Cx) (e : Expr) (w : WB) : Prop := PW X e (tW X.K w)
@[simp] def wAnd (a b : WB) (τ : PSt) (Q : Bool → PSt → Prop) : Prop := a τ fun c τ1 => if c = true then b τ1 Q else Q false τ1
@[simp] def wOr (a b : WB) (τ : PSt) (Q : Bool → PSt → Prop) : Prop := a τ fun c τ1 => if c = true then Q true τ1 else b τ1 Q
@[simp] def wNot (a : WB) (τ : PSt) (Q : Bool → PSt → Prop) : Prop := a τ fun c τ1 => Q (!c) τ1
theorem lw_and1 {w : WB} (ha : LB X a w) : LW X (.BoolOp .And [a] pos) w := pw_and1 ha
theorem lw_or1 {w : WB} (ha : LB X a w) : LW X (.BoolOp .Or [a] pos) w := pw_or1 ha
theorem lw_and {rest : List Expr} {w w' : WB} (ha : LB X a w) (hb : LW X (.BoolOp .And (b :: rest) pos) w') : LW X (.BoolOp .And (a :: b :: rest) pos) (wAnd w w') :=
  PW.imp (pw_and ha hb) fun σ H Q hw => by
    obtain ⟨E, Hs, τ, tmp, PQ, I, hw, hq⟩ := hw
    refine ⟨E, Hs, τ, tmp, _, I, hw, fun Hs' H' τ' c I' p => ?_⟩
    cases c
    · exact hq Hs' H' τ' false I' p
    · exact ⟨E, Hs', τ', tmp, PQ, I', p, hq⟩
theorem lw_or {rest : List Expr} {w w' : WB} (ha : LB X a w) (hb : LW X (.BoolOp .Or (b :: rest) pos) w') : LW X (.BoolOp .Or (a :: b :: rest) pos) (wOr w w') :=
  PW.imp (pw_or ha hb) fun σ H Q hw => by
    obtain ⟨E, Hs, τ, tmp, PQ, I, hw, hq⟩ := hw
    refine ⟨E, Hs, τ, tmp, _, I, hw, fun Hs' H' τ' c I' p => ?_⟩
    cases c
    · exact ⟨E, Hs', τ', tmp, PQ, I', p, hq⟩
    · exact hq Hs' H' τ' true I' p
theorem _root_.L2.PW.lb {w : WB} (h : LW X e w) : LB X e w := PW.pt h
theorem lb_not {w : WB} (ha : LB X a w) : LB X (.UnaryOp .Not a pos) (wNot w) := PT.imp (pt_not ha) fun σ H Q hw => by
  obtain ⟨E, Hs, τ, tmp, PQ, I, hw, hq⟩ := hw
  exact ⟨E, Hs, τ, tmp, _, I, hw, fun Hs' H' τ' c I' p => hq Hs' H' τ' _ I' p⟩
/-! ### and, or, not as values; a if t else b -/
@[simp] def wAndV (a : WV) (b : WE) (τ : PSt) (Q : T → Md → PSt → Prop) : Prop := a τ fun t τ1 => match t with
  | .bl c => if c = true then b τ1 Q else Q (.bl false) .sh τ1
  | _ => False
@[simp] def wOrV (a : WV) (b : WE) (τ : PSt) (Q : T → Md → PSt → Prop) : Prop := a τ fun t τ1 => match t with
  | .bl c => if c = true then Q (.bl true) .sh τ1 else b τ1 Q
  | _ => False
@[simp] def wNotV (a : WV) (τ : PSt) (Q : T → Md → PSt → Prop) : Prop := a τ fun t τ1 => match t with
  | .bl c => Q (.bl (!c)) .sh τ1
  | _ => False
theorem top1 {K : PySem.W.Frag} {E : Ent} {Hs H : Hp} {σ : L2.St} {τ : PSt} {tmp : Tmp} {v : V} {t : T} {m : Md} (I : INV K E Hs H σ τ (tmp ++ [(v, t, m)])) : OK K Hs H t m v := I.tm tmp.length v t m (by simp)
theorem le_one {o} {w : WE} (h : LE X a w) : LE X (.BoolOp o [a] pos) w := pe_one h
theorem le_and {rest : List Expr} {w : WV} {w' : WE} (ha : LV X a w) (hb : LE X (.BoolOp .And (b :: rest) pos) w') : LE X (.BoolOp .And (a :: b :: rest) pos) (wAndV w w') :=
  PE.imp (pe_and ha hb) fun σ H Q hw => by
    obtain ⟨E, Hs, τ, tmp, PQ, I, hw, hq⟩ := hw
    refine ⟨E, Hs, τ, tmp, _, I, hw, fun Hs' H' τ' t v I' p => ?_⟩
    cases t <;> first | exact p.elim | skip
    rename_i c
    refine ⟨c, (top1 I').bl, ?_⟩
    cases c
    · exact hq Hs' H' τ' _ .sh _ (I'.pop.push (R.bl.mpr rfl)) p
    · exact ⟨E, Hs', τ', tmp, PQ, I'.pop, p, hq⟩
theorem le_or {rest : List Expr} {w : WV} {w' : WE} (ha : LV X a w) (hb : LE X (.BoolOp .Or (b :: rest) pos) w') : LE X (.BoolOp .Or (a :: b :: rest) pos) (wOrV w w') :=
  PE.imp (pe_or ha hb) fun σ H Q hw => by
    obtain ⟨E, Hs, τ, tmp, PQ, I, hw, hq⟩ := hw
    refine ⟨E, Hs, τ, tmp, _, I, hw, fun Hs' H' τ' t v I' p => ?_⟩
    cases t <;> first | exact p.elim | skip
    rename_i c
    refine ⟨c, (top1 I').bl, ?_⟩
    cases c
    · exact ⟨E, Hs', τ', tmp, PQ, I'.pop, p, hq⟩
    · exact hq Hs' H' τ' _ .sh _ (I'.pop.push (R.bl.mpr rfl)) p
theorem le_not {w : WV} (ha : LV X a w) : LE X (.UnaryOp .Not a pos) (wNotV w) := PE.imp (pe_not ha) fun σ H Q hw => by
  obtain ⟨E, Hs, τ, tmp, PQ, I, hw, hq⟩ := hw
  refine ⟨E, Hs, τ, tmp, _, I, hw, fun Hs' H' τ' t v I' p => ?_⟩
  cases t <;> first | exact p.elim | skip
  rename_i c
  exact ⟨c, (top1 I').bl, hq Hs' H' τ' _ .sh _ (I'.pop.push (R.bl.mpr rfl)) p⟩
@[simp] def wIf (c : WB) (a b : WE) (τ : PSt) (Q : T → Md → PSt → Prop) : Prop := c τ fun k τ1 => if k = true then a τ1 Q else b τ1 Q
theorem le_if {c : Expr} {wc : WB} {wa wb : WE} (hc : LB X c wc) (ha : LE X a wa) (hb : LE X b wb) : LE X (.IfExp c a b pos) (wIf wc wa wb) := PE.imp (pe_ifExp hc ha hb) fun σ H Q hw => by
  obtain ⟨E, Hs, τ, tmp, PQ, I, hw, hq⟩ := hw
  refine ⟨E, Hs, τ, tmp, _, I, hw, fun Hs' H' τ' k I' p => ?_⟩
  cases k
  · exact ⟨E, Hs', τ', tmp, PQ, I', p, hq⟩
  · exact ⟨E, Hs', τ', tmp, PQ, I', p, hq⟩
end
end Z

set_option Elab.async false
set_option linter.all false
set_option maxRecDepth 100000
set_option maxHeartbeats 1000000
/-! Z3: operators over trees. -/
namespace Z
open PySem PySem.Spec PyProof.Rows L2

section
variable {K : PySem.W.Frag} {E : Ent} {Hs H : Hp} {σ : L2.St} {τ : PSt} {tmp : Tmp} {t u : T} {ts us : List T} {v : V} {vs : List V} {p : Addr}
theorem Vw.mono' {Hs' : Hp} (l : Le Hs Hs') (h : R K Hs t v) : Vw K Hs' H t v := .inl (h.mono l)
theorem Vw.non : Vw K Hs H .non v ↔ v = .non := by
  constructor
  · rintro (h | ⟨_, _, _, _, c⟩)
    · simpa only [R] using h
    · exact c.elim
  · intro h; exact .inl (by simpa only [R] using h)
theorem Vw.bl {b : Bool} : Vw K Hs H (.bl b) v ↔ v = .bl b := by
  constructor
  · rintro (h | ⟨_, _, _, _, c⟩)
    · simpa only [R] using h
    · exact c.elim
  · intro h; exact .inl (by simpa only [R] using h)
theorem Vw.int {i : Int} : Vw K Hs H (.int i) v ↔ v = .int i := by
  constructor
  · rintro (h | ⟨_, _, _, _, c⟩)
    · simpa only [R] using h
    · exact c.elim
  · intro h; exact .inl (by simpa only [R] using h)
theorem Vw.str {x : Str} : Vw K Hs H (.str x) v ↔ v = .str x := by
  constructor
  · rintro (h | ⟨_, _, _, _, c⟩)
    · simpa only [R] using h
    · exact c.elim
  · intro h; exact .inl (by simpa only [R] using h)
theorem Vw.tupR (h : Vw K Hs H (.tup ts) v) : R K Hs (.tup ts) v := by
  rcases h with h | ⟨_, _, _, _, c⟩
  · exact h
  · exact c.elim
theorem Vw.tup (l : Le Hs H) (h : Vw K Hs H (.tup ts) v) : ∃ a vs, v = .ref a ∧ H a = some (.tup vs) ∧ RL K Hs ts vs := by
  have h := h.tupR
  simp only [R] at h
  obtain ⟨a, vs, e, q, r⟩ := h
  exact ⟨a, vs, e, l _ _ q, r⟩
theorem sqT_any (h : SqT K (fun _ => none) p vs) : SqT K H p vs := SqT.mono (fun _ _ e => by cases e) h
theorem Vw.ktup (h : Vw K Hs H (.ktup ts) v) : ∃ a vs, v = .ref a ∧ SqT K H a vs ∧ RL K Hs ts vs := by
  rcases h with h | ⟨_, _, _, _, c⟩
  · simp only [R] at h
    obtain ⟨a, vs, e, q, r⟩ := h
    exact ⟨a, vs, e, sqT_any q, r⟩
  · exact c.elim
theorem Vw.lst (l : Le Hs H) (h : Vw K Hs H (.lst ts) v) : ∃ a vs, v = .ref a ∧ H a = some (.lst vs) ∧ RL K Hs ts vs := by
  rcases h with h | ⟨a, o, e, h1, vs, e2, r⟩
  · simp only [R] at h
    obtain ⟨a, vs, e, q, r⟩ := h
    exact ⟨a, vs, e, l _ _ q, r⟩
  · subst e2; exact ⟨a, vs, e, h1, r⟩
theorem Vw.frl (l : Le Hs H) (h : Vw K Hs H (.frl ts) v) : ∃ a vs, v = .ref a ∧ SqL K H a vs ∧ RL K Hs ts vs := by
  rcases h with h | ⟨_, _, _, _, c⟩
  · simp only [R] at h
    obtain ⟨a, vs, e, q, r⟩ := h
    exact ⟨a, vs, e, SqL.mono l q, r⟩
  · exact c.elim
theorem Vw.dic (l : Le Hs H) {ks : List Key} (h : Vw K Hs H (.dic ks ts) v) : ∃ a o vs, v = .ref a ∧ H a = some o ∧ DO o ks vs ∧ RL K Hs ts vs := by
  rcases h with h | ⟨a, o, e, h1, vs, d, r⟩
  · simp only [R] at h
    obtain ⟨a, o, vs, e, q, d, r⟩ := h
    exact ⟨a, o, vs, e, l _ _ q, d, r⟩
  · exact ⟨a, o, vs, e, h1, d, r⟩
theorem Vw.dit (l : Le Hs H) {ks : List (List Key)} (h : Vw K Hs H (.dit ks ts) v) : ∃ a o vs, v = .ref a ∧ H a = some o ∧ DOt o ks vs ∧ RL K Hs ts vs := by
  rcases h with h | ⟨a, o, e, h1, vs, d, r⟩
  · simp only [R] at h
    obtain ⟨a, o, vs, e, q, d, r⟩ := h
    exact ⟨a, o, vs, e, l _ _ q, d, r⟩
  · exact ⟨a, o, vs, e, h1, d, r⟩
/-- any sequence -/
@[simp] def seqT : T → Option (List T)
  | .tup ts => some ts
  | .ktup ts => some ts
  | .lst ts => some ts
  | .frl ts => some ts
  | _ => none
theorem Vw.seq (l : Le Hs H) (e : seqT t = some ts) (h : Vw K Hs H t v) : ∃ a vs, v = .ref a ∧ (SqL K H a vs ∨ SqT K H a vs) ∧ RL K Hs ts vs := by
  cases t <;> simp only [seqT, Option.some.injEq, reduceCtorEq] at e
  · subst e
    obtain ⟨a, vs, e, q, r⟩ := h.tup l
    exact ⟨a, vs, e, .inr (SqT.of q), r⟩
  · subst e
    obtain ⟨a, vs, e, q, r⟩ := h.ktup
    exact ⟨a, vs, e, .inr q, r⟩
  · subst e
    obtain ⟨a, vs, e, q, r⟩ := h.lst l
    exact ⟨a, vs, e, .inl (SqL.of q), r⟩
  · subst e
    obtain ⟨a, vs, e, q, r⟩ := h.frl l
    exact ⟨a, vs, e, .inl q, r⟩
theorem VwL.one (h : VwL K Hs H [t] vs) : ∃ x, vs = [x] ∧ Vw K Hs H t x := by
  obtain ⟨v, r, e, h1, h2⟩ := h
  have h2 : r = [] := h2
  exact ⟨v, by rw [e, h2], h1⟩
theorem VwL.two (h : VwL K Hs H [t, u] vs) : ∃ x y, vs = [x, y] ∧ Vw K Hs H t x ∧ Vw K Hs H u y := by
  obtain ⟨v, r, e, h1, h2⟩ := h
  obtain ⟨y, e2, h3⟩ := h2.one
  exact ⟨v, y, by rw [e, e2], h1, h3⟩
theorem INV.tupNew (I : INV K E Hs H σ τ tmp) (h : H p = none) (r : RL K Hs ts vs) : INV K E (upd Hs p (.tup vs)) (upd H p (.tup vs)) σ τ (tmp ++ [(.ref p, .tup ts, .sh)]) :=
  (I.allocS h).push (by simp only [R]; exact ⟨p, vs, rfl, upd_same, r.mono (Le.upd (I.news h))⟩)
theorem INV.lstNew (I : INV K E Hs H σ τ tmp) (h : H p = none) (r : RL K Hs ts vs) : INV K E Hs (upd H p (.lst vs)) σ τ (tmp ++ [(.ref p, .lst ts, .ow)]) :=
  I.allocO h ⟨vs, rfl, r⟩
theorem INV.pushI {i : Int} (I : INV K E Hs H σ τ tmp) : INV K E Hs H σ τ (tmp ++ [(.int i, .int i, .sh)]) := I.push (by simp only [R])
theorem INV.pushB {b : Bool} (I : INV K E Hs H σ τ tmp) : INV K E Hs H σ τ (tmp ++ [(.bl b, .bl b, .sh)]) := I.push (by simp only [R])
theorem INV.pushN (I : INV K E Hs H σ τ tmp) : INV K E Hs H σ τ (tmp ++ [(.non, .non, .sh)]) := I.push (by simp only [R])
theorem INV.pushS {x : Str} (I : INV K E Hs H σ τ tmp) : INV K E Hs H σ τ (tmp ++ [(.str x, .str x, .sh)]) := I.push (by simp only [R])
end

/-! ### two ints -/
@[simp] def oI (C : Int → Int → Prop) (g : Int → Int → Int) (ts : List T) (P : T → Md → Prop) : Prop := match ts with
  | [.int i, .int j] => C i j ∧ P (.int (g i j)) .sh
  | _ => False
@[simp] def oB (g : Int → Int → Bool) (ts : List T) (P : T → Md → Prop) : Prop := match ts with
  | [.int i, .int j] => P (.bl (g i j)) .sh
  | _ => False
section
variable {K : PySem.W.Frag}
theorem ops_I {C : Int → Int → Prop} {g : Int → Int → Int} : OpS K (oI C g) (r2l (rI C fun i j => .int (g i j))) := by
  intro E Hs H σ τ tmp ts vs P Q I vw h k
  unfold oI at h
  split at h
  · rename_i i j
    obtain ⟨x, y, rfl, hx, hy⟩ := vw.two
    exact ⟨i, j, Vw.int.mp hx, Vw.int.mp hy, h.1, k _ _ _ _ _ I.pushI h.2⟩
  · exact h.elim
theorem ops_I0 {g : Int → Int → Int} : OpS K (oI (fun _ _ => True) g) (r2l (rI0 fun i j => .int (g i j))) := by
  intro E Hs H σ τ tmp ts vs P Q I vw h k
  unfold oI at h
  split at h
  · rename_i i j
    obtain ⟨x, y, rfl, hx, hy⟩ := vw.two
    exact ⟨i, j, Vw.int.mp hx, Vw.int.mp hy, k _ _ _ _ _ I.pushI h.2⟩
  · exact h.elim
theorem ops_B {g : Int → Int → Bool} : OpS K (oB g) (r2l (rI0 fun i j => .bl (g i j))) := by
  intro E Hs H σ τ tmp ts vs P Q I vw h k
  unfold oB at h
  split at h
  · rename_i i j
    obtain ⟨x, y, rfl, hx, hy⟩ := vw.two
    exact ⟨i, j, Vw.int.mp hx, Vw.int.mp hy, k _ _ _ _ _ I.pushB h⟩
  · exact h.elim
theorem OpS.imp {op op' : WOp} {r : List V → Hp → VK → Prop} (s : OpS K op r) (h : ∀ ts P, op' ts P → op ts P) : OpS K op' r := fun I vw q k => s I vw (h _ _ q) k
/-! ### + -/
@[simp] def oAdd (ts : List T) (P : T → Md → Prop) : Prop := match ts with
  | [.int i, .int j] => P (.int (i + j)) .sh
  | [.lst a, .lst b] => a.length + b.length ≤ sizeLine ∧ P (.lst (a ++ b)) .ow
  | [.tup a, .tup b] => a.length + b.length ≤ sizeLine ∧ P (.tup (a ++ b)) .sh
  | [.str a, .str b] => a.length + b.length ≤ sizeLine ∧ P (.str (a ++ b)) .sh
  | _ => False
def rAddA (K : PySem.W.Frag) : R2 := fun x y H Q => (rI0 (fun i j => .int (i + j))) x y H Q ∨ (rCat x y H Q ∨ (rCatA K x y H Q ∨ (∃ i j, x = .str i ∧ y = .str j ∧ i.length + j.length ≤ sizeLine ∧ Q (.str (i ++ j)) H)))
theorem op_addA {X : Cx} : OpR X (binaryOp .Add) (rAddA X.K) := op_add.or (op_cat.or (op_catA.or op_add_str))
theorem ops_add : OpS K oAdd (r2l (rAddA K)) := by
  intro E Hs H σ τ tmp ts vs P Q I vw h k
  unfold oAdd at h
  split at h
  · rename_i i j
    obtain ⟨x, y, rfl, hx, hy⟩ := vw.two
    exact .inl ⟨i, j, Vw.int.mp hx, Vw.int.mp hy, k _ _ _ _ _ I.pushI h⟩
  · rename_i a b
    obtain ⟨x, y, rfl, hx, hy⟩ := vw.two
    obtain ⟨pa, va, rfl, qa, ra⟩ := hx.lst I.le
    obtain ⟨pb, vb, rfl, qb, rb⟩ := hy.lst I.le
    refine .inr (.inl ⟨pa, pb, va, vb, rfl, rfl, qa, qb, by rw [ra.length, rb.length]; exact h.1, fun p hp => ?_⟩)
    exact k _ _ _ _ _ (I.lstNew hp (ra.append rb)) h.2
  · rename_i a b
    obtain ⟨x, y, rfl, hx, hy⟩ := vw.two
    obtain ⟨pa, va, ea, qa, ra⟩ := hx.tup I.le
    obtain ⟨pb, vb, eb, qb, rb⟩ := hy.tup I.le
    refine .inr (.inr (.inl ⟨pa, pb, va, vb, ea, eb, SqT.of qa, SqT.of qb, by rw [ra.length, rb.length]; exact h.1, fun z => ?_, fun _ z => ?_, fun _ _ p hp => ?_⟩))
    · have z2 : a = [] := by
        have := ra.length
        rw [z] at this
        exact List.eq_nil_of_length_eq_zero this.symm
      subst z2
      rw [← eb]
      exact k _ _ _ _ _ (I.push hy.tupR) h.2
    · have z2 : b = [] := by
        have := rb.length
        rw [z] at this
        exact List.eq_nil_of_length_eq_zero this.symm
      subst z2
      rw [← ea]
      exact k _ _ (.tup (a ++ [])) _ _ (I.push (by rw [List.append_nil]; exact hx.tupR)) h.2
    · exact k _ _ _ _ _ (I.tupNew hp (ra.append rb)) h.2
  · rename_i a b
    obtain ⟨x, y, rfl, hx, hy⟩ := vw.two
    exact .inr (.inr (.inr ⟨a, b, Vw.str.mp hx, Vw.str.mp hy, h.1, k _ _ _ _ _ I.pushS h.2⟩))
  · exact h.elim
/-! ### * -/
theorem RL.rep {Hs : Hp} {ts : List T} {vs : List V} (r : RL K Hs ts vs) : ∀ n : Nat, RL K Hs (List.replicate n ts).flatten (List.replicate n vs).flatten
  | 0 => RL.nil.mpr rfl
  | n + 1 => by
    rw [List.replicate_succ, List.replicate_succ, List.flatten_cons, List.flatten_cons]
    exact r.append (RL.rep r n)
@[simp] def oMul (ts : List T) (P : T → Md → Prop) : Prop := match ts with
  | [.int i, .int j] => (CMul i j ∨ CMulW i j) ∧ P (.int (i * j)) .sh
  | [.lst a, .int k] => -(2 ^ 63) ≤ k ∧ k < 2 ^ 63 ∧ a.length * k.toNat ≤ sizeLine ∧ P (.lst (List.replicate k.toNat a).flatten) .ow
  | _ => False
def rMulA : R2 := fun x y H Q => (rI CMul fun i j => .int (i * j)) x y H Q ∨ ((rI CMulW fun i j => .int (i * j)) x y H Q ∨ rRep x y H Q)
theorem op_mulA {X : Cx} : OpR X (binaryOp .Mult) rMulA := op_mul.or (op_mulW.or op_rep)
theorem ops_mul : OpS K oMul (r2l rMulA) := by
  intro E Hs H σ τ tmp ts vs P Q I vw h k
  unfold oMul at h
  split at h
  · rename_i i j
    obtain ⟨x, y, rfl, hx, hy⟩ := vw.two
    rcases h with ⟨h | h, p⟩
    · exact .inl ⟨i, j, Vw.int.mp hx, Vw.int.mp hy, h, k _ _ _ _ _ I.pushI p⟩
    · exact .inr (.inl ⟨i, j, Vw.int.mp hx, Vw.int.mp hy, h, k _ _ _ _ _ I.pushI p⟩)
  · rename_i a j
    obtain ⟨x, y, rfl, hx, hy⟩ := vw.two
    obtain ⟨pa, va, rfl, qa, ra⟩ := hx.lst I.le
    obtain ⟨h1, h2, h3, p⟩ := h
    refine .inr (.inr ⟨pa, j, va, rfl, Vw.int.mp hy, qa, h1, h2, by rw [ra.length]; exact h3, fun q hq => ?_⟩)
    exact k _ _ _ _ _ (I.lstNew hq (RL.rep ra _)) p
  · exact h.elim
/-! ### //, %, **, shifts, bits -/
def CDv (i j : Int) : Prop := 0 < j ∧ j ≤ 18446744073709551616
theorem CDv.w {i j : Int} (h : CDv i j) : CDivW i j := wide_div (b := 100) h.1 (by
  have h1 := h.1
  have h2 := h.2
  have e : (2 : Nat) ^ 100 = 1267650600228229401496703205376 := by decide
  rw [e]
  omega) (by decide) (by decide)
@[simp] def oFdv : WOp := oI CDv fun i j => i / j
theorem ops_fdv : OpS K oFdv (r2l (rI CDivW fun i j => .int (i / j))) := by
  refine OpS.imp (K := K) (op := oI CDivW fun i j => i / j) ops_I fun ts P h => ?_
  unfold oFdv oI at h
  unfold oI
  split at h
  · exact ⟨h.1.w, h.2⟩
  · exact h.elim
@[simp] def oMod : WOp := oI (fun _ j => 0 < j) fun i j => i % j
@[simp] def oPow : WOp := oI CPow fun i j => i ^ j.toNat
@[simp] def oShl : WOp := oI CPow fun i j => i * 2 ^ j.toNat
@[simp] def oShr : WOp := oI (fun _ j => 0 ≤ j) fun i j => i / 2 ^ j.toNat
@[simp] def oSub : WOp := oI (fun _ _ => True) fun i j => i - j
@[simp] def oAnd : WOp := oI (fun _ _ => True) fun i j => Builtin.bitAnd i j
@[simp] def oOr : WOp := oI (fun _ _ => True) fun i j => Builtin.bitOr i j
@[simp] def oXor : WOp := oI (fun _ _ => True) fun i j => Builtin.bitXor i j
@[simp] def oU (g : Int → Int) (ts : List T) (P : T → Md → Prop) : Prop := match ts with
  | [.int i] => P (.int (g i)) .sh
  | _ => False
theorem ops_U {g : Int → Int} : OpS K (oU g) (r1l (rU fun i => .int (g i))) := by
  intro E Hs H σ τ tmp ts vs P Q I vw h k
  unfold oU at h
  split at h
  · rename_i i
    obtain ⟨x, rfl, hx⟩ := vw.one
    exact ⟨i, Vw.int.mp hx, k _ _ _ _ _ I.pushI h⟩
  · exact h.elim
/-! ### <, <= -/
def intsT : List T → Option (List Int)
  | [] => some []
  | .int i :: r => (intsT r).map (i :: ·)
  | _ => none
theorem intsT_some : ∀ {ts : List T} {ns : List Int}, intsT ts = some ns → ts = ns.map T.int
  | [], ns, h => by simp [intsT] at h; subst h; rfl
  | t :: r, ns, h => by
    cases t <;> simp only [intsT, reduceCtorEq] at h
    rename_i i
    cases e : intsT r with
    | none => rw [e] at h; cases h
    | some ms =>
      rw [e] at h
      simp only [Option.map_some, Option.some.injEq] at h
      subst h
      rw [intsT_some e]; rfl
theorem intsT_map : ∀ ns : List Int, intsT (ns.map T.int) = some ns
  | [] => rfl
  | n :: ns => by
    show (intsT (ns.map T.int)).map (n :: ·) = _
    rw [intsT_map ns]; rfl
/-- the order of tuples of ints -/
def leIs (ns ms : List Int) : Bool := Ob.lexAt (fun j => decide (ns.getD j 0 = ms.getD j 0)) (fun j => decide (ns.getD j 0 ≤ ms.getD j 0)) (decide (ns.length ≤ ms.length)) 0 (min ns.length ms.length)
@[simp] def oLt (ts : List T) (P : T → Md → Prop) : Prop := match ts with
  | [.int i, .int j] => P (.bl (decide (i < j))) .sh
  | [.tup a, .tup b] => match intsT a, intsT b with
    | some ns, some ms => P (.bl (HT.lexLt ns ms)) .sh
    | _, _ => False
  | _ => False
@[simp] def oLe (ts : List T) (P : T → Md → Prop) : Prop := match ts with
  | [.int i, .int j] => P (.bl (decide (i ≤ j))) .sh
  | [.tup a, .tup b] => match intsT a, intsT b with
    | some ns, some ms => P (.bl (leIs ns ms)) .sh
    | _, _ => False
  | _ => False
def rLtA (K : PySem.W.Frag) : R2 := fun x y H Q => (rI0 fun i j => .bl (decide (i < j))) x y H Q ∨ rLtT K x y H Q
def rLeA (K : PySem.W.Frag) : R2 := fun x y H Q => (rI0 fun i j => .bl (decide (i ≤ j))) x y H Q ∨ rLeT K x y H Q
theorem op_ltA {X : Cx} (hu : X.A.units < cLine) : OpR X (compareOp .Lt) (rLtA X.K) := op_lt.or (op_ltT hu)
theorem op_leA {X : Cx} (hu : X.A.units < cLine) : OpR X (compareOp .LtE) (rLeA X.K) := op_le.or (op_leT hu)
theorem ops_lt : OpS K oLt (r2l (rLtA K)) := by
  intro E Hs H σ τ tmp ts vs P Q I vw h k
  unfold oLt at h
  split at h
  · obtain ⟨x, y, rfl, hx, hy⟩ := vw.two
    exact .inl ⟨_, _, Vw.int.mp hx, Vw.int.mp hy, k _ _ _ _ _ I.pushB h⟩
  · obtain ⟨x, y, rfl, hx, hy⟩ := vw.two
    split at h
    · rename_i e1 e2
      have e1 := intsT_some e1
      have e2 := intsT_some e2
      subst e1 e2
      obtain ⟨pa, va, rfl, qa, ra⟩ := hx.tup I.le
      obtain ⟨pb, vb, rfl, qb, rb⟩ := hy.tup I.le
      exact .inr ⟨pa, pb, _, _, rfl, rfl, SqT.of (by rw [← ra.ints]; exact qa), SqT.of (by rw [← rb.ints]; exact qb), k _ _ _ _ _ I.pushB h⟩
    · exact h.elim
  · exact h.elim
theorem ops_le : OpS K oLe (r2l (rLeA K)) := by
  intro E Hs H σ τ tmp ts vs P Q I vw h k
  unfold oLe at h
  split at h
  · obtain ⟨x, y, rfl, hx, hy⟩ := vw.two
    exact .inl ⟨_, _, Vw.int.mp hx, Vw.int.mp hy, k _ _ _ _ _ I.pushB h⟩
  · obtain ⟨x, y, rfl, hx, hy⟩ := vw.two
    split at h
    · rename_i e1 e2
      have e1 := intsT_some e1
      have e2 := intsT_some e2
      subst e1 e2
      obtain ⟨pa, va, rfl, qa, ra⟩ := hx.tup I.le
      obtain ⟨pb, vb, rfl, qb, rb⟩ := hy.tup I.le
      exact .inr ⟨pa, pb, _, _, rfl, rfl, SqT.of (by rw [← ra.ints]; exact qa), SqT.of (by rw [← rb.ints]; exact qb), k _ _ _ _ _ I.pushB h⟩
    · exact h.elim
  · exact h.elim
/-! ### == -/
mutual
def toD : T → PyData
  | .non => .none
  | .bl b => .bool b
  | .int i => .int i
  | .str x => .str x
  | .tup ts => .tuple (toDs ts)
  | .ktup ts => .tuple (toDs ts)
  | .lst ts => .list (toDs ts)
  | .frl ts => .list (toDs ts)
  | .dic _ _ => .dict []
  | .dit _ _ => .dict []
def toDs : List T → List PyData
  | [] => []
  | t :: ts => toD t :: toDs ts
end
def teq (t u : T) : Bool := PyData.eqv (toD t) (toD u)
def tsh (t : T) : Bool := SeqAt.shaped (toD t)
theorem dp_all {Hs : Hp} (t : T) : ∀ v, PyData.canLay0 (toD t) = true → R K Hs t v → Dp K Hs v (toD t) := by
  refine T.rec (motive_1 := fun t => ∀ v, PyData.canLay0 (toD t) = true → R K Hs t v → Dp K Hs v (toD t)) (motive_2 := fun ts => ∀ vs, PyData.canLayAll0 (toDs ts) = true → RL K Hs ts vs → DpAll K Hs vs (toDs ts)) ?_ ?_ ?_ ?_ ?_ ?_ ?_ ?_ ?_ ?_ ?_ ?_ t
  · intro v _ h; simp only [R] at h; subst h; simp only [toD]; exact .non
  · intro b v _ h; simp only [R] at h; subst h; simp only [toD]; exact .bl b
  · intro b v _ h; simp only [R] at h; subst h; simp only [toD]; exact .int b
  · intro b v _ h; simp only [R] at h; subst h; simp only [toD]; exact .str b
  · intro ts ih v c h
    simp only [R] at h
    obtain ⟨a, vs, rfl, q, r⟩ := h
    simp only [toD] at c ⊢
    exact .tup (SqT.of q) (ih _ (by simpa only [PyData.canLay0] using c) r)
  · intro ts ih v c h
    simp only [R] at h
    obtain ⟨a, vs, rfl, q, r⟩ := h
    simp only [toD] at c ⊢
    exact .tup (sqT_any q) (ih _ (by simpa only [PyData.canLay0] using c) r)
  · intro ts ih v c h
    simp only [R] at h
    obtain ⟨a, vs, rfl, q, r⟩ := h
    simp only [toD] at c ⊢
    exact .lst (SqL.of q) (ih _ (by simpa only [PyData.canLay0] using c) r)
  · intro ts ih v c h
    simp only [R] at h
    obtain ⟨a, vs, rfl, q, r⟩ := h
    simp only [toD] at c ⊢
    exact .lst q (ih _ (by simpa only [PyData.canLay0] using c) r)
  · intro ks ts ih v c h
    simp only [toD, PyData.canLay0, reduceCtorEq] at c
  · intro ks ts ih v c h
    simp only [toD, PyData.canLay0, reduceCtorEq] at c
  · intro vs _ h
    have h := RL.nil.mp h
    subst h
    simp only [toDs]; exact .nil
  · intro t ts i1 i2 vs c h
    obtain ⟨v, r, rfl, h1, h2⟩ := RL.cons.mp h
    simp only [toDs, PyData.canLayAll0, Bool.and_eq_true] at c ⊢
    exact .cons (i1 _ c.1 h1) (i2 _ c.2 h2)
theorem dpl_all {Hs : Hp} : ∀ {ts : List T} {vs : List V}, PyData.canLayAll0 (toDs ts) = true → RL K Hs ts vs → DpAll K Hs vs (toDs ts)
  | [], _, _, h => by
    have h := RL.nil.mp h
    subst h
    simp only [toDs]; exact .nil
  | t :: ts, _, c, h => by
    obtain ⟨v, r, rfl, h1, h2⟩ := RL.cons.mp h
    simp only [toDs, PyData.canLayAll0, Bool.and_eq_true] at c ⊢
    exact .cons (dp_all t _ c.1 h1) (dpl_all c.2 h2)
theorem Vw.dp {Hs H : Hp} {t : T} {v : V} (l : Le Hs H) (s : tsh t = true) (h : Vw K Hs H t v) : Dp K H v (toD t) := by
  have c := SeqAt.canLay_of_shaped s
  rcases h with h | ⟨a, o, e, h1, h2⟩
  · exact dp_all t v c (h.mono l)
  · cases t <;> first | exact h2.elim | skip
    · obtain ⟨vs, e2, r⟩ := h2
      subst e e2
      simp only [toD] at c ⊢
      exact .lst (SqL.of h1) (dpl_all (by simpa only [PyData.canLay0] using c) (r.mono l))
    all_goals simp only [toD, PyData.canLay0, reduceCtorEq] at c
@[simp] def oEq (ts : List T) (P : T → Md → Prop) : Prop := match ts with
  | [t, u] => tsh t = true ∧ tsh u = true ∧ P (.bl (teq t u)) .sh
  | _ => False
@[simp] def oNe (ts : List T) (P : T → Md → Prop) : Prop := match ts with
  | [t, u] => tsh t = true ∧ tsh u = true ∧ P (.bl (!teq t u)) .sh
  | _ => False
theorem ops_eq : OpS K oEq (r2l (rEqD K)) := by
  intro E Hs H σ τ tmp ts vs P Q I vw h k
  unfold oEq at h
  split at h
  · obtain ⟨x, y, rfl, hx, hy⟩ := vw.two
    exact ⟨_, _, hx.dp I.le h.1, hy.dp I.le h.2.1, h.1, h.2.1, k _ _ _ _ _ I.pushB h.2.2⟩
  · exact h.elim
theorem ops_ne : OpS K oNe (r2l (rNeD K)) := by
  intro E Hs H σ τ tmp ts vs P Q I vw h k
  unfold oNe at h
  split at h
  · obtain ⟨x, y, rfl, hx, hy⟩ := vw.two
    exact ⟨_, _, hx.dp I.le h.1, hy.dp I.le h.2.1, h.1, h.2.1, k _ _ _ _ _ I.pushB h.2.2⟩
  · exact h.elim
/-! ### is, is not -/
def isNT : T → Bool
  | .non => true
  | _ => false
@[simp] def oIs (ts : List T) (P : T → Md → Prop) : Prop := match ts with
  | [.bl a, .bl b] => P (.bl (decide (a = b))) .sh
  | [t, .non] => P (.bl (isNT t)) .sh
  | _ => False
@[simp] def oIsNot (ts : List T) (P : T → Md → Prop) : Prop := match ts with
  | [.bl a, .bl b] => P (.bl (!decide (a = b))) .sh
  | [t, .non] => P (.bl (!isNT t)) .sh
  | _ => False
theorem Vw.isN {Hs H : Hp} {t : T} {v : V} (h : Vw K Hs H t v) : decide (v = .non) = isNT t := by
  rcases h with h | ⟨a, o, e, h1, h2⟩
  · cases t <;> simp only [R] at h <;> first | (subst h; rfl) | skip
    all_goals
      first
        | (obtain ⟨a, vs, rfl, _⟩ := h; rfl)
        | (obtain ⟨a, o, vs, rfl, _⟩ := h; rfl)
  · subst e
    cases t <;> first | exact h2.elim | rfl
def rIsA : R2 := fun x y H Q => (∃ a b, x = .bl a ∧ y = .bl b ∧ Q (.bl (decide (a = b))) H) ∨ (y = .non ∧ Q (.bl (decide (x = .non))) H)
def rIsNotA : R2 := fun x y H Q => (∃ a b, x = .bl a ∧ y = .bl b ∧ Q (.bl (!decide (a = b))) H) ∨ (y = .non ∧ Q (.bl (!decide (x = .non))) H)
theorem op_isA {X : Cx} : OpR X (compareOp .Is) rIsA := op_is_bl.or op_isN
theorem op_isNotA {X : Cx} : OpR X (compareOp .IsNot) rIsNotA := op_isnot_bl.or op_notN
theorem ops_is : OpS K oIs (r2l rIsA) := by
  intro E Hs H σ τ tmp ts vs P Q I vw h k
  unfold oIs at h
  split at h
  · obtain ⟨x, y, rfl, hx, hy⟩ := vw.two
    exact .inl ⟨_, _, Vw.bl.mp hx, Vw.bl.mp hy, k _ _ _ _ _ I.pushB h⟩
  · obtain ⟨x, y, rfl, hx, hy⟩ := vw.two
    exact .inr ⟨Vw.non.mp hy, by rw [hx.isN]; exact k _ _ _ _ _ I.pushB h⟩
  · exact h.elim
theorem ops_isNot : OpS K oIsNot (r2l rIsNotA) := by
  intro E Hs H σ τ tmp ts vs P Q I vw h k
  unfold oIsNot at h
  split at h
  · obtain ⟨x, y, rfl, hx, hy⟩ := vw.two
    exact .inl ⟨_, _, Vw.bl.mp hx, Vw.bl.mp hy, k _ _ _ _ _ I.pushB h⟩
  · obtain ⟨x, y, rfl, hx, hy⟩ := vw.two
    exact .inr ⟨Vw.non.mp hy, by rw [hx.isN]; exact k _ _ _ _ _ I.pushB h⟩
  · exact h.elim
end
end Z

set_option Elab.async false
set_option linter.all false
set_option maxRecDepth 100000
set_option maxHeartbeats 1000000
/-! Z4: in, subscripts, slices, displays, built-in functions over trees. -/
namespace Z
open PySem PySem.Spec PyProof.Rows L2

section
variable {K : PySem.W.Frag} {Hs H : Hp} {t : T} {ts : List T} {v : V} {vs : List V}
/-! ### flat trees -/
@[simp] def flT : T → Bool
  | .non => true
  | .bl _ => true
  | .int _ => true
  | .str _ => true
  | _ => false
def vOf : T → V
  | .bl b => .bl b
  | .int i => .int i
  | .str x => .str x
  | _ => .non
theorem flT_R (f : flT t = true) (h : R K Hs t v) : v = vOf t := by
  cases t <;> first | (simp only [R] at h; exact h) | (simp [flT] at f)
theorem flT_Vw (f : flT t = true) (h : Vw K Hs H t v) : v = vOf t := by
  rcases h with h | ⟨_, _, _, _, c⟩
  · exact flT_R f h
  · cases t <;> first | exact c.elim | (simp [flT] at f)
theorem flT_flat (f : flT t = true) : flatV (vOf t) = true := by
  cases t <;> first | rfl | (simp [flT] at f)
theorem flT_eq {u : T} (f : flT t = true) (g : flT u = true) : eqV (vOf t) (vOf u) = teq t u := by
  cases t <;> cases u <;> first | (simp [flT] at f; done) | (simp [flT] at g; done) | simp [vOf, eqV, teq, toD, PyData.eqv]
theorem flL_R : ∀ {ts : List T} {vs : List V}, ts.all flT = true → RL K Hs ts vs → vs = ts.map vOf
  | [], _, _, h => RL.nil.mp h
  | t :: ts, _, f, h => by
    rw [List.all_cons, Bool.and_eq_true] at f
    obtain ⟨v, r, rfl, h1, h2⟩ := RL.cons.mp h
    rw [flT_R f.1 h1, flL_R f.2 h2]; rfl
theorem flL_flat : ∀ {ts : List T}, ts.all flT = true → (ts.map vOf).all flatV = true
  | [], _ => rfl
  | t :: ts, f => by
    rw [List.all_cons, Bool.and_eq_true] at f
    rw [List.map_cons, List.all_cons, flT_flat f.1, flL_flat f.2]; rfl
theorem flL_any (f : flT t = true) : ∀ {ts : List T}, ts.all flT = true → inV (vOf t) (ts.map vOf) = ts.any fun z => teq z t
  | [], _ => rfl
  | u :: ts, g => by
    rw [List.all_cons, Bool.and_eq_true] at g
    show ((u :: ts).map vOf).any (fun y => eqV y (vOf t)) = _
    rw [List.map_cons, List.any_cons, List.any_cons, flT_eq g.1 f]
    have := flL_any f g.2
    unfold inV at this
    rw [this]
theorem toDs_any (t : T) : ∀ ts : List T, ((toDs ts).any fun z => PyData.eqv z (toD t)) = ts.any fun z => teq z t
  | [] => rfl
  | u :: ts => by
    simp only [toDs, List.any_cons]
    rw [toDs_any t ts]; rfl
end
/-! ### keys of dicts -/
@[simp] def keyT : T → Option Key
  | .int i => some (.inl i)
  | .str x => some (.inr x)
  | _ => none
@[simp] def keysT : List T → Option (List Key)
  | [] => some []
  | t :: r => match keyT t, keysT r with
    | some k, some ks => some (k :: ks)
    | _, _ => none
/-- the value of a key -/
def valT {κ : Type} [DecidableEq κ] (ks : List κ) (ts : List T) (k : κ) : Option T := ((ks.zip ts).find? fun p => decide (p.1 = k)).map (·.2)
def hasK {κ : Type} [DecidableEq κ] (ks : List κ) (k : κ) : Bool := ks.any fun x => decide (x = k)
def putKs {κ : Type} [DecidableEq κ] (ks : List κ) (k : κ) : List κ := if hasK ks k = true then ks else ks ++ [k]
def putTs {κ : Type} [DecidableEq κ] (ks : List κ) (ts : List T) (k : κ) (t : T) : List T := if hasK ks k = true then (ks.zip ts).map fun p => if p.1 = k then t else p.2 else ts ++ [t]
section
variable {K : PySem.W.Frag} {Hs H : Hp} {t : T} {ts : List T} {v : V} {vs : List V}
theorem keyT_v {k : Key} (e : keyT t = some k) (h : Vw K Hs H t v) : v = kV k := by
  cases t <;> simp only [keyT, Option.some.injEq, reduceCtorEq] at e
  · subst e; exact Vw.int.mp h
  · subst e; exact Vw.str.mp h
theorem keysT_v : ∀ {ts : List T} {ks : List Key} {vs : List V}, keysT ts = some ks → RL K Hs ts vs → vs = ks.map kV
  | [], ks, vs, e, h => by
    simp [keysT] at e; subst e
    exact RL.nil.mp h
  | t :: ts, ks, vs, e, h => by
    obtain ⟨v, r, rfl, h1, h2⟩ := RL.cons.mp h
    unfold keysT at e
    split at e
    · rename_i k ks' e1 e2
      cases e
      rw [keyT_v (H := Hs) e1 (.inl h1), keysT_v e2 h2]; rfl
    · cases e
theorem valV_T {κ : Type} [DecidableEq κ] : ∀ {l : List (κ × V)} {ks : List κ} {ts : List T} {k : κ}, l.map (·.1) = ks → RL K Hs ts (l.map (·.2)) → ks.length = ts.length →
    (match valT ks ts k with | some t => ∃ v, valV l k = some v ∧ R K Hs t v | none => valV l k = none)
  | [], ks, ts, k, e, h, hl => by
    subst e
    cases ts with
    | nil => rfl
    | cons t r => cases hl
  | p :: l, ks, ts, k, e, h, hl => by
    subst e
    cases ts with
    | nil => cases hl
    | cons t r =>
      rw [List.map_cons] at h
      obtain ⟨v, r', e2, h1, h2⟩ := RL.cons.mp h
      cases e2
      by_cases hk : p.1 = k
      · have e1 : valT ((p :: l).map (·.1)) (t :: r) k = some t := by simp [valT, hk]
        rw [e1]
        exact ⟨p.2, valV_pos hk, h1⟩
      · have e1 : valT ((p :: l).map (·.1)) (t :: r) k = valT (l.map (·.1)) r k := by simp [valT, hk]
        rw [e1, valV_neg hk]
        exact valV_T (k := k) rfl h2 (by simpa using hl)
theorem valT_some {κ : Type} [DecidableEq κ] {l : List (κ × V)} {ks : List κ} {ts : List T} {k : κ} {t : T} (e : l.map (·.1) = ks) (h : RL K Hs ts (l.map (·.2))) (q : valT ks ts k = some t) : ∃ v, valV l k = some v ∧ R K Hs t v := by
  have hl : ks.length = ts.length := by rw [← e, ← h.length]; simp
  have := valV_T (k := k) e h hl
  rw [q] at this
  exact this
theorem valT_isSome {κ : Type} [DecidableEq κ] {l : List (κ × V)} {ks : List κ} {ts : List T} {k : κ} (e : l.map (·.1) = ks) (h : RL K Hs ts (l.map (·.2))) : (valV l k).isSome = hasK ks k := by
  rw [← valV_any]
  subst e
  unfold hasK
  rw [List.any_map]
  rfl
end
/-! ### in, not in -/
@[simp] def oIn (neg : Bool) (ts : List T) (P : T → Md → Prop) : Prop := match ts with
  | [t, .lst us] => tsh t = true ∧ tsh (.lst us) = true ∧ P (.bl (neg ^^ us.any fun z => teq z t)) .sh
  | [t, .dic ks us] => (match keyT t with
    | some k => P (.bl (neg ^^ hasK ks k)) .sh
    | none => False)
  | [.tup kt, .dit ks us] => (match keysT kt with
    | some k => P (.bl (neg ^^ hasK ks k)) .sh
    | none => False)
  | [t, c] => (match seqT c with
    | some us => flT t = true ∧ us.all flT = true ∧ P (.bl (neg ^^ us.any fun z => teq z t)) .sh
    | none => False)
  | _ => False
def rInB (K : PySem.W.Frag) (neg : Bool) : R2 := fun x y H Q => ∃ d ds, Dp K H x d ∧ Dp K H y (.list ds) ∧ SeqAt.shaped d = true ∧ SeqAt.shaped (.list ds) = true ∧ Q (.bl (neg ^^ ds.any fun z => PyData.eqv z d)) H
def rInT (neg : Bool) : R2 := fun x y H Q => ∃ a o, y = .ref a ∧ DGet H a x o ∧ Q (.bl (neg ^^ o.isSome)) H
def rInF (K : PySem.W.Frag) (neg : Bool) : R2 := fun x y H Q => ∃ p xs, y = .ref p ∧ (SqL K H p xs ∨ SqT K H p xs) ∧ flatV x = true ∧ xs.all flatV = true ∧ Q (.bl (neg ^^ inV x xs)) H
def rInA (K : PySem.W.Frag) (neg : Bool) : R2 := fun x y H Q => rInF K neg x y H Q ∨ (rInB K neg x y H Q ∨ rInT neg x y H Q)
section
variable {X : Cx}
theorem op_inT (hu : X.A.units + 1 < cLine) : OpR X (compareOp .In) (rInT false) := by
  intro pins s σ H x y v u Q I rx ry h
  obtain ⟨a, o, rfl, g, q⟩ := h
  cases (show u = Value.ref a from ry)
  exact d_in hu I g rx fun s' I' => ⟨.bl o.isSome, H, I', rfl, by simpa using q⟩
theorem op_notInT (hu : X.A.units + 1 < cLine) : OpR X (compareOp .NotIn) (rInT true) := by
  intro pins s σ H x y v u Q I rx ry h
  obtain ⟨a, o, rfl, g, q⟩ := h
  cases (show u = Value.ref a from ry)
  exact d_notIn hu I g rx fun s' I' => ⟨.bl (!o.isSome), H, I', rfl, by simpa using q⟩
theorem OpR.imp {f : Value → Value → Sem Value} {r r' : R2} (h : OpR X f r) (i : ∀ x y H Q, r' x y H Q → r x y H Q) : OpR X f r' := fun pins s σ H x y v u Q I rx ry q => h pins s σ H x y v u Q I rx ry (i _ _ _ _ q)
theorem op_inA (hu : X.A.units + 65 < cLine) : OpR X (compareOp .In) (rInA X.K false) :=
  (OpR.imp op_in_seq fun x y H Q h => by simpa [rInF, rIn] using h).or ((OpR.imp (op_inD hu) fun x y H Q h => by simpa [rInB, rInD] using h).or (op_inT (by omega)))
theorem op_notInA (hu : X.A.units + 65 < cLine) : OpR X (compareOp .NotIn) (rInA X.K true) :=
  (OpR.imp op_notIn_seq fun x y H Q h => by simpa [rInF, rIn] using h).or ((OpR.imp (op_notInD hu) fun x y H Q h => by simpa [rInB, rNotInD] using h).or (op_notInT (by omega)))
end
section
variable {K : PySem.W.Frag}
theorem ops_in {neg : Bool} : OpS K (oIn neg) (r2l (rInA K neg)) := by
  intro E Hs H σ τ tmp ts vs P Q I vw h k
  unfold oIn at h
  split at h
  · rename_i us
    obtain ⟨x, y, rfl, hx, hy⟩ := vw.two
    obtain ⟨h1, h2, p⟩ := h
    have hd : Dp K H y (.list (toDs us)) := by
      have := hy.dp I.le h2
      simpa only [toD] using this
    have h2' : SeqAt.shaped (.list (toDs us)) = true := by
      have := h2
      unfold tsh at this
      simpa only [toD] using this
    refine .inr (.inl ⟨_, toDs us, hx.dp I.le h1, hd, h1, h2', ?_⟩)
    rw [toDs_any]; exact k _ _ _ _ _ I.pushB p
  · obtain ⟨x, y, rfl, hx, hy⟩ := vw.two
    split at h
    · rename_i kk ek
      obtain ⟨a, o, vs, rfl, q, ⟨l, rfl, e1, e2⟩, r⟩ := hy.dic I.le
      have ex := keyT_v ek hx
      subst ex
      subst e2
      refine .inr (.inr ⟨a, valV l kk, rfl, DGet.k q, ?_⟩)
      rw [valT_isSome e1 r]
      exact k _ _ _ _ _ I.pushB h
    · exact h.elim
  · obtain ⟨x, y, rfl, hx, hy⟩ := vw.two
    split at h
    · rename_i kk ek
      obtain ⟨a, o, vs, rfl, q, ⟨l, rfl, e1, e2⟩, r⟩ := hy.dit I.le
      obtain ⟨b, ws, rfl, qb, rb⟩ := hx.tup I.le
      have ex := keysT_v ek rb
      subst ex
      subst e2
      refine .inr (.inr ⟨a, valV l kk, rfl, DGet.t q qb, ?_⟩)
      rw [valT_isSome e1 r]
      exact k _ _ _ _ _ I.pushB h
    · exact h.elim
  · obtain ⟨x, y, rfl, hx, hy⟩ := vw.two
    split at h
    · rename_i us es
      obtain ⟨h1, h2, p⟩ := h
      obtain ⟨a, ws, rfl, q, r⟩ := hy.seq I.le es
      have ew := flL_R h2 r
      subst ew
      have hx2 := flT_Vw h1 hx
      subst hx2
      refine .inl ⟨a, _, rfl, q, flT_flat h1, flL_flat h2, ?_⟩
      rw [flL_any h1 h2]
      exact k _ _ _ _ _ I.pushB p
    · exact h.elim
  · exact h.elim
end
/-! ### subscripts -/
@[simp] def oIx (ts : List T) (P : T → Md → Prop) : Prop := match ts with
  | [.dic ks us, t] => (match keyT t with
    | some k => (match valT ks us k with
      | some u => P u .sh
      | none => False)
    | none => False)
  | [.dit ks us, .tup kt] => (match keysT kt with
    | some k => (match valT ks us k with
      | some u => P u .sh
      | none => False)
    | none => False)
  | [.str x, .int i] => (match atI x.cps.toList i with
    | some c => x.length ≤ sizeLine ∧ P (.str ⟨#[c]⟩) .sh
    | none => False)
  | [c, .int i] => (match seqT c with
    | some us => (match atI us i with
      | some u => P u .sh
      | none => False)
    | none => False)
  | _ => False
def rIxA (K : PySem.W.Frag) : R2 := fun x y H Q => rIx K x y H Q ∨ ∃ a v, x = .ref a ∧ DGet H a y (some v) ∧ Q v H
theorem ix_dictT {X : Cx} (hu : X.A.units + 1 < cLine) : IxR X (fun x y H Q => ∃ a v, x = .ref a ∧ DGet H a y (some v) ∧ Q v H) := by
  intro value slice pins s σ H x y v u Q I rx ry h hs
  obtain ⟨a, w, rfl, g, q⟩ := h
  cases (show v = Value.ref a from rx)
  have hT := dict_typeIs I g
  have h₂ : wpAny (model X.prog X.w) X.A (getItem (.ref a) u) (EP X pins σ Q) X.xe s := d_getItem hu I g ry fun w' s3 I3 rw' => ⟨w, H, I3, rw', q⟩
  unfold subscriptTail
  refine wpAny_bind ?_
  rw [getitemInPython_of_ne hT.not_modules]
  refine wpAny_bind (wpAny_specialOf hT PySem.F.slot_dict_getitem.lookup ?_)
  have fin : wpAny (model X.prog X.w) X.A (subscripted slice false (.ref a) u) (fun r s₃ => wpAny (model X.prog X.w) X.A (letTemporaryGo value (.ref a) r >>= fun _ => pure r) (EP X pins σ Q) X.xe s₃) X.xe s := by
    rw [hs]
    exact wpAny_operating (wpAny_mono h₂ (fun r s₃ h₃ => wpAny_bind (wpAny_letTemporaryGo (wpAny_pure h₃))) fun _ _ x => x)
  first
    | exact wpAny_pure (wpAny_bind fin)
    | exact wpAny_bind (wpAny_pure (wpAny_bind fin))
    | exact wpAny_bind fin
theorem ix_A {X : Cx} (hu : X.A.units + 1 < cLine) : IxR X (rIxA X.K) := ix_seq.or (ix_dictT hu)
section
variable {K : PySem.W.Frag} {Hs H : Hp} {t : T} {ts : List T} {v : V} {vs : List V}
theorem RL.atI {i : Int} {u : T} (r : RL K Hs ts vs) (e : atI ts i = some u) : ∃ v, L2.atI vs i = some v ∧ R K Hs u v := by
  unfold L2.atI at e ⊢
  rw [r.length]
  cases q : ixN ts.length i with
  | none => rw [q] at e; cases e
  | some j =>
    rw [q] at e
    exact r.get e
theorem ops_ix : OpS K oIx (r2l (rIxA K)) := by
  intro E Hs H σ τ tmp ts vs P Q I vw h k
  unfold oIx at h
  split at h
  · obtain ⟨x, y, rfl, hx, hy⟩ := vw.two
    split at h
    · rename_i kk ek
      split at h
      · rename_i u eu
        obtain ⟨a, o, vs, rfl, q, ⟨l, rfl, e1, e2⟩, r⟩ := hx.dic I.le
        have ex := keyT_v ek hy
        subst ex
        subst e2
        obtain ⟨w, ew, rw'⟩ := valT_some e1 r eu
        exact .inr ⟨a, w, rfl, by rw [← ew]; exact DGet.k q, k _ _ _ _ _ (I.push rw') h⟩
      · exact h.elim
    · exact h.elim
  · obtain ⟨x, y, rfl, hx, hy⟩ := vw.two
    split at h
    · rename_i kk ek
      split at h
      · rename_i u eu
        obtain ⟨a, o, vs, rfl, q, ⟨l, rfl, e1, e2⟩, r⟩ := hx.dit I.le
        obtain ⟨b, ws, rfl, qb, rb⟩ := hy.tup I.le
        have ex := keysT_v ek rb
        subst ex
        subst e2
        obtain ⟨w, ew, rw'⟩ := valT_some e1 r eu
        exact .inr ⟨a, w, rfl, by rw [← ew]; exact DGet.t q qb, k _ _ _ _ _ (I.push rw') h⟩
      · exact h.elim
    · exact h.elim
  · obtain ⟨x, y, rfl, hx, hy⟩ := vw.two
    split at h
    · rename_i c ec
      exact .inl (.inr (.inr ⟨_, _, _, Vw.str.mp hx, Vw.int.mp hy, h.1, ec, k _ _ _ _ _ I.pushS h.2⟩))
    · exact h.elim
  · obtain ⟨x, y, rfl, hx, hy⟩ := vw.two
    split at h
    · rename_i us es
      split at h
      · rename_i u eu
        obtain ⟨a, ws, rfl, q, r⟩ := hx.seq I.le es
        obtain ⟨w, ew, rw'⟩ := r.atI eu
        have fin := k _ _ _ _ _ (I.push rw') h
        rcases q with q | q
        · exact .inl (.inl ⟨a, ws, _, w, rfl, Vw.int.mp hy, q, ew, fin⟩)
        · exact .inl (.inr (.inl ⟨a, ws, _, w, rfl, Vw.int.mp hy, q, ew, fin⟩))
      · exact h.elim
    · exact h.elim
  · exact h.elim
theorem le_ix {X : Cx} {a b : Expr} {pos : Pos} {oa ob : Opd} (hu : X.A.units + 1 < cLine) (ha : LO X a oa) (hb : LO X b ob) (hs : PlainIx b := by exact fun _ _ => rfl) : LE X (.Subscript a b pos) (wOp oIx [oa, ob]) :=
  le_op (pe_ix (ix_A hu) ha hb hs) ops_ix
/-! ### slices -/
def cutA {α : Type} (xs : List α) (lo hi : Option Int) : List α := (xs.drop (HT.sIx xs.length 0 lo)).take (HT.sIx xs.length xs.length hi - HT.sIx xs.length 0 lo)
@[simp] def sliced (c : T) (lo hi : Option Int) (P : T → Md → Prop) : Prop := match c with
  | .lst us => P (.lst (cutA us lo hi)) .ow
  | .frl us => P (.lst (cutA us lo hi)) .ow
  | .tup us => P (.tup (cutA us lo hi)) .sh
  | .str x => x.length ≤ sizeLine ∧ P (.str (cutS x lo hi)) .sh
  | _ => False
def rSlAll (K : PySem.W.Frag) : V → Option Int → Option Int → Hp → VK → Prop := fun x lo hi H Q => rSlL K x lo hi H Q ∨ (rSlA K x lo hi H Q ∨ rSlS x lo hi H Q)
theorem sl_all {X : Cx} : SlR X (rSlAll X.K) := sl_list.or (sl_tupA.or sl_str)
theorem RL.cut {lo hi : Option Int} (r : RL K Hs ts vs) : RL K Hs (cutA ts lo hi) (cutV vs lo hi) := by
  unfold cutA cutV
  rw [r.length]
  exact (r.drop _).take _
theorem sliced_ok {E : Ent} {σ : L2.St} {τ : PSt} {tmp : Tmp} {x : V} {c : T} {lo hi : Option Int} {P : T → Md → Prop} {Q : VK} (I : INV K E Hs H σ τ tmp) (vx : Vw K Hs H c x) (h : sliced c lo hi P)
    (k : ∀ Hs' H' t m v, INV K E Hs' H' σ τ (tmp ++ [(v, t, m)]) → P t m → Q v H') : rSlAll K x lo hi H Q := by
  cases c <;> first | exact h.elim | skip
  · exact .inr (.inr ⟨_, Vw.str.mp vx, h.1, k _ _ _ _ _ I.pushS h.2⟩)
  · obtain ⟨a, vs, e, q, r⟩ := vx.tup I.le
    refine .inr (.inl ⟨a, vs, e, SqT.of q, fun hw => ?_, fun _ p hp => k _ _ _ _ _ (I.tupNew hp r.cut) h⟩)
    rename_i us
    have ec : cutA us lo hi = us := by
      unfold cutA
      rw [← r.length, hw.1, hw.2]
      simp [r.length]
    have h : P (.tup (cutA us lo hi)) .sh := h
    rw [ec] at h
    rw [← e]
    exact k _ _ _ _ _ (I.push vx.tupR) h
  · obtain ⟨a, vs, e, q, r⟩ := vx.lst I.le
    exact .inl ⟨a, vs, e, SqL.of q, fun p hp => k _ _ _ _ _ (I.lstNew hp r.cut) h⟩
  · obtain ⟨a, vs, e, q, r⟩ := vx.frl I.le
    exact .inl ⟨a, vs, e, q, fun p hp => k _ _ _ _ _ (I.lstNew hp r.cut) h⟩
@[simp] def oSl0 (ts : List T) (P : T → Md → Prop) : Prop := match ts with
  | [c] => sliced c none none P
  | _ => False
@[simp] def oSlA (ts : List T) (P : T → Md → Prop) : Prop := match ts with
  | [c, .int i] => sliced c (some i) none P
  | _ => False
@[simp] def oSlB (ts : List T) (P : T → Md → Prop) : Prop := match ts with
  | [c, .int i] => sliced c none (some i) P
  | _ => False
theorem VwL.three {u w : T} (h : VwL K Hs H [t, u, w] vs) : ∃ x y z, vs = [x, y, z] ∧ Vw K Hs H t x ∧ Vw K Hs H u y ∧ Vw K Hs H w z := by
  obtain ⟨v, r, e, h1, h2⟩ := h
  obtain ⟨y, z, e2, h3, h4⟩ := h2.two
  exact ⟨v, y, z, by rw [e, e2], h1, h3, h4⟩
variable {X : Cx} {a lo hi : Expr} {pos p2 : Pos} {oa ol oh : Opd}
theorem le_sl0 (ha : LO X a oa) : LE X (.Subscript a (.Slice none none none p2) pos) (wOp oSl0 [oa]) :=
  le_op (r := fun vs H Q => match vs with | [x] => rSlAll X.K x none none H Q | _ => False) (pe_slice sl_all ha po_none po_none) (by
    intro E Hs H σ τ tmp ts vs P Q I vw h k
    unfold oSl0 at h
    split at h
    · obtain ⟨x, rfl, hx⟩ := vw.one
      exact sliced_ok I hx h k
    · exact h.elim)
theorem le_slA (ha : LO X a oa) (hl : LO X lo ol) : LE X (.Subscript a (.Slice (some lo) none none p2) pos) (wOp oSlA [oa, ol]) :=
  le_op (r := fun vs H Q => match vs with | [x, y] => ∃ i, y = .int i ∧ rSlAll X.K x (some i) none H Q | _ => False) (pe_slice sl_all ha (po_some hl) po_none) (by
    intro E Hs H σ τ tmp ts vs P Q I vw h k
    unfold oSlA at h
    split at h
    · obtain ⟨x, y, rfl, hx, hy⟩ := vw.two
      exact ⟨_, Vw.int.mp hy, sliced_ok I hx h k⟩
    · exact h.elim)
theorem le_slB (ha : LO X a oa) (hl : LO X hi oh) : LE X (.Subscript a (.Slice none (some hi) none p2) pos) (wOp oSlB [oa, oh]) :=
  le_op (r := fun vs H Q => match vs with | [x, y] => ∃ i, y = .int i ∧ rSlAll X.K x none (some i) H Q | _ => False) (pe_slice sl_all ha po_none (po_some hl)) (by
    intro E Hs H σ τ tmp ts vs P Q I vw h k
    unfold oSlB at h
    split at h
    · obtain ⟨x, y, rfl, hx, hy⟩ := vw.two
      exact ⟨_, Vw.int.mp hy, sliced_ok I hx h k⟩
    · exact h.elim)
end
end Z

set_option Elab.async false
set_option linter.all false
set_option maxRecDepth 100000
set_option maxHeartbeats 1000000
/-! Z5: displays, built-in functions over trees. -/
namespace Z
open PySem PySem.Spec PyProof.Rows L2

/-! ### displays -/
inductive El where
  | one (w : WV)
  | star (o : Opd)
def tEls (K : PySem.W.Frag) : List El → TA
  | [] => tNil
  | .one w :: r => tCons (tV K w) (tEls K r)
  | .star o :: r => StX.tStar K (tO K o) (tEls K r)
@[simp] def wO1 (o : Opd) (τ : PSt) (Q : T → PSt → Prop) : Prop := match o with
  | .sl i => look τ i fun t => Q t τ
  | .ex w => w τ Q
@[simp] def wEls : List El → PSt → (List T → PSt → Prop) → Prop
  | [], τ, Q => Q [] τ
  | .one w :: r, τ, Q => w τ fun t τ1 => wEls r τ1 fun ts τ' => Q (t :: ts) τ'
  | .star o :: r, τ, Q => wO1 o τ fun t τ1 => match seqT t with
    | some us => wEls r τ1 fun ts τ' => Q (us ++ ts) τ'
    | none => False
section
variable {K : PySem.W.Frag} {E : Ent} {Hs H : Hp} {σ : L2.St} {τ : PSt} {tmp : Tmp}
def shs (ts : List T) (vs : List V) : Tmp := (vs.zip ts).map fun p => (p.1, p.2, Md.sh)
theorem INV.pushL : ∀ {ts : List T} {vs : List V} {tmp : Tmp}, INV K E Hs H σ τ tmp → RL K Hs ts vs → INV K E Hs H σ τ (tmp ++ shs ts vs)
  | [], vs, tmp, I, r => by
    have e := RL.nil.mp r
    subst e
    simpa [shs] using I
  | t :: ts, vs, tmp, I, r => by
    obtain ⟨v, r', rfl, h1, h2⟩ := RL.cons.mp r
    have := INV.pushL (I.push h1) h2
    rw [List.append_assoc] at this
    exact this
theorem INV.getL : ∀ {ts : List T} {vs : List V} {tmp : Tmp} {more : Tmp}, INV K E Hs H σ τ (tmp ++ shs ts vs ++ more) → vs.length = ts.length → RL K Hs ts vs
  | [], vs, tmp, more, I, e => RL.nil.mpr (List.eq_nil_of_length_eq_zero e)
  | t :: ts, [], tmp, more, I, e => by cases e
  | t :: ts, v :: vs, tmp, more, I, e => by
    have e1 : tmp ++ shs (t :: ts) (v :: vs) ++ more = (tmp ++ [(v, t, Md.sh)]) ++ shs ts vs ++ more := by simp [shs]
    rw [e1] at I
    have et : ((tmp ++ [(v, t, Md.sh)]) ++ shs ts vs ++ more)[tmp.length]? = some (v, t, .sh) := by simp
    exact RL.cons.mpr ⟨v, vs, rfl, I.tm _ _ _ _ et, INV.getL I (by simpa using e)⟩
theorem els : ∀ (os : List El) {Hs H : Hp} {τ : PSt} {tmp : Tmp} {PQ : List T → PSt → Prop} {Q : List V → Hp → Prop}, INV K E Hs H σ τ tmp → wEls os τ PQ →
    (∀ Hs' H' τ' ts vs, INV K E Hs' H' σ τ' (tmp ++ shs ts vs) → vs.length = ts.length → PQ ts τ' → Q vs H') → tEls K os σ H Q
  | [], Hs, H, τ, tmp, PQ, Q, I, h, k => k Hs H τ [] [] (by simpa [shs] using I) rfl h
  | .one w :: r, Hs, H, τ, tmp, PQ, Q, I, h, k => by
    have h : w τ fun t τ1 => wEls r τ1 fun ts τ' => PQ (t :: ts) τ' := h
    refine ⟨E, Hs, τ, tmp, _, I, h, fun Hs1 H1 τ1 t v I1 p => ?_⟩
    refine els r I1 p fun Hs' H' τ' ts vs I' hl p' => ?_
    exact k Hs' H' τ' (t :: ts) (v :: vs) (by simpa [shs] using I') (by simp [hl]) p'
  | .star o :: r, Hs, H, τ, tmp, PQ, Q, I, h, k => by
    have h : wO1 o τ fun t τ1 => match seqT t with
      | some us => wEls r τ1 fun ts τ' => PQ (us ++ ts) τ'
      | none => False := h
    have go : ∀ {Hs1 H1 τ1 t x more}, INV K E Hs1 H1 σ τ1 (tmp ++ more) → Vw K Hs1 H1 t x → (match seqT t with
      | some us => wEls r τ1 fun ts τ' => PQ (us ++ ts) τ'
      | none => False) → ∃ p xs, x = V.ref p ∧ (SqT K H1 p xs ∨ SqL K H1 p xs) ∧ tEls K r σ H1 fun ys H2 => Q (xs ++ ys) H2 := fun {Hs1 H1 τ1 t x more} I1 vx q => by
      split at q
      · rename_i us es
        obtain ⟨a, ws, rfl, qa, ra⟩ := vx.seq I1.le es
        refine ⟨a, ws, rfl, qa.symm, ?_⟩
        refine els r (I1.pop.pushL ra) q fun Hs' H' τ' ts vs I' hl p' => ?_
        have e : tmp ++ shs us ws ++ shs ts vs = tmp ++ shs (us ++ ts) (ws ++ vs) := by
          simp [shs, List.zip_append ra.length]
        rw [e] at I'
        exact k Hs' H' τ' _ _ I' (by simp [hl, ra.length]) p'
      · exact q.elim
    cases o with
    | sl i =>
      have h : look τ i _ := h
      unfold look at h
      split at h
      · rename_i t m e
        obtain ⟨v, e1, kk⟩ := I.sl i t m e
        exact ⟨v, e1, go (more := []) (by simpa using I) kk.vw h⟩
      · exact h.elim
    | ex w =>
      exact ⟨E, Hs, τ, tmp, _, I, h, fun Hs1 H1 τ1 t v I1 p => go I1 (OK.vw (top1 I1)) p⟩
end
abbrev LEs (X : Cx) (es : List Expr) (os : List El) : Prop := PA X es (tEls X.K os)
section
variable {X : Cx} {e : Expr} {es : List Expr} {pos p : Pos}
theorem els_nil : LEs X [] [] := pa_nil
theorem els_one {w : WV} {os : List El} (h : LV X e w) (hr : LEs X es os) (hs : starEach (e :: es) X.env = (false, eval e X.env) :: starEach es X.env := by rfl) : LEs X (e :: es) (.one w :: os) := pa_cons h hr hs
theorem els_star {o : Opd} {os : List El} (h : LO X e o) (hr : LEs X es os) (hs : starEach (.Starred e p :: es) X.env = (true, eval e X.env) :: starEach es X.env := by rfl) : LEs X (.Starred e p :: es) (.star o :: os) := StX.pa_star h hr hs
@[simp] def wTup (os : List El) (τ : PSt) (Q : T → Md → PSt → Prop) : Prop := wEls os τ fun ts τ' => ts.length ≤ sizeLine ∧ Q (.tup ts) .sh τ'
@[simp] def wLst (os : List El) (τ : PSt) (Q : T → Md → PSt → Prop) : Prop := wEls os τ fun ts τ' => ts.length ≤ sizeLine ∧ Q (.lst ts) .ow τ'
theorem le_tup {k : Nat} {os : List El} (h : LEs X es os) : LE X (.Tuple es k pos) (wTup os) := PE.imp (pe_tup h) fun σ H Q hw => by
  obtain ⟨E, Hs, τ, tmp, PQ, I, hw, hq⟩ := hw
  refine els os I hw fun Hs' H' τ' ts vs I' hl p => ⟨by rw [hl]; exact p.1, fun q hq' => ?_⟩
  exact hq _ _ τ' _ _ _ (I'.pop.tupNew hq' (INV.getL (more := []) (by simpa using I') hl)) p.2
theorem le_lst {os : List El} (h : LEs X es os) : LE X (.List es pos) (wLst os) := PE.imp (pe_lst h) fun σ H Q hw => by
  obtain ⟨E, Hs, τ, tmp, PQ, I, hw, hq⟩ := hw
  refine els os I hw fun Hs' H' τ' ts vs I' hl p => ⟨by rw [hl]; exact p.1, fun q hq' => ?_⟩
  exact hq _ _ τ' _ _ _ (I'.pop.lstNew hq' (INV.getL (more := []) (by simpa using I') hl)) p.2
end

/-! ### built-in functions -/
abbrev LOs (X : Cx) (es : List Expr) (os : List Opd) : Prop := PA X es (tOs X.K os)
section
variable {X : Cx} {e : Expr} {es : List Expr} {pos p : Pos} {x : Str} {id T' : String} {os : List Opd} {op : WOp} {r : List V → Hp → VK → Prop}
theorem los_nil : LOs X [] [] := pa_nil
theorem los_cons {o : Opd} (h : LO X e o) (hr : LOs X es os) (hs : starEach (e :: es) X.env = (false, eval e X.env) :: starEach es X.env := by rfl) : LOs X (e :: es) (o :: os) := pa_cons h hr hs
theorem le_callB (hc : CallR X (.builtin id) r) (s : OpS X.K op r) (hg : Gl X x) (hm : X.mg x = none) (hv : bootBuiltins x = some (.builtin id)) (ha : LOs X (e :: es) os) (hn : x ≠ "__name__" := by decide) (hdb : (x == ("__debug__" : Str)) = false := by decide)
    (he : starEach (e :: es) X.env = (false, eval e X.env) :: starEach es X.env := by rfl) (hpl : (backTo pos (starEach es X.env)).any (·.1) = false := by rfl) : LE X (.Call (.Name x p) (e :: es) [] pos) (wOp op os) :=
  le_op (pe_callB hc hg hm hv ha hn hdb he hpl) s
theorem le_callTy (hc : CallR X (.type T') r) (s : OpS X.K op r) (hg : Gl X x) (hm : X.mg x = none) (hv : bootBuiltins x = some (.type T')) (ha : LOs X (e :: es) os) (hn : x ≠ "__name__" := by decide) (hdb : (x == ("__debug__" : Str)) = false := by decide)
    (he : starEach (e :: es) X.env = (false, eval e X.env) :: starEach es X.env := by rfl) (hpl : (backTo pos (starEach es X.env)).any (·.1) = false := by rfl) : LE X (.Call (.Name x p) (e :: es) [] pos) (wOp op os) :=
  le_op (pe_callTy hc hg hm hv ha hn hdb he hpl) s
end
section
variable {K : PySem.W.Frag} {X : Cx}
/-! len -/
@[simp] def lenT : T → Option Nat
  | .str x => if x.length ≤ sizeLine then some x.length else none
  | .dic ks _ => some ks.length
  | .dit ks _ => some ks.length
  | t => (seqT t).map List.length
@[simp] def oLen (ts : List T) (P : T → Md → Prop) : Prop := match ts with
  | [t] => (match lenT t with
    | some n => P (.int (n : Int)) .sh
    | none => False)
  | _ => False
def rLenA (K : PySem.W.Frag) : List V → Hp → VK → Prop := fun xs H Q => (∃ p ys, xs = [.ref p] ∧ (SqL K H p ys ∨ SqT K H p ys) ∧ Q (.int ys.length) H) ∨
  ((∃ z, xs = [.str z] ∧ z.length ≤ sizeLine ∧ Q (.int z.length) H) ∨ ((∃ a kvs, xs = [V.ref a] ∧ H a = some (.dK kvs) ∧ Q (.int kvs.length) H) ∨ rLenT xs H Q))
theorem call_lenA : CallR X (.builtin "len") (rLenA X.K) := call_len_seq.or (call_len_str.or (call_lenD.or call_len_dT))
theorem ops_len : OpS K oLen (rLenA K) := by
  intro E Hs H σ τ tmp ts vs P Q I vw h k
  unfold oLen at h
  split at h
  · rename_i t
    obtain ⟨x, rfl, hx⟩ := vw.one
    have sq : ∀ us, seqT t = some us → P (.int (us.length : Int)) .sh → rLenA K [x] H Q := fun us e p => by
      obtain ⟨a, ws, rfl, q, r⟩ := hx.seq I.le e
      refine .inl ⟨a, ws, rfl, q, ?_⟩
      rw [r.length]
      exact k _ _ _ _ _ I.pushI p
    cases t with
    | str z =>
      simp only [lenT] at h
      split at h
      · rename_i n e
        split at e
        · cases e
          rename_i hz
          exact .inr (.inl ⟨z, by rw [Vw.str.mp hx], hz, k _ _ _ _ _ I.pushI h⟩)
        · cases e
      · exact h.elim
    | dic ks us =>
      obtain ⟨a, o, ws, rfl, q, ⟨l, rfl, e1, e2⟩, r⟩ := hx.dic I.le
      refine .inr (.inr (.inl ⟨a, l, rfl, q, ?_⟩))
      have e : l.length = ks.length := by rw [← e1]; simp
      rw [e]
      exact k _ _ _ _ _ I.pushI h
    | dit ks us =>
      obtain ⟨a, o, ws, rfl, q, ⟨l, rfl, e1, e2⟩, r⟩ := hx.dit I.le
      refine .inr (.inr (.inr ⟨a, l, rfl, q, ?_⟩))
      have e : l.length = ks.length := by rw [← e1]; simp
      rw [e]
      exact k _ _ _ _ _ I.pushI h
    | tup us => exact sq us rfl h
    | ktup us => exact sq us rfl h
    | lst us => exact sq us rfl h
    | frl us => exact sq us rfl h
    | non => exact h.elim
    | bl b => exact h.elim
    | int i => exact h.elim
  · exact h.elim
/-! abs, int -/
@[simp] def oAbs : WOp := oU fun i => if i < 0 then -i else i
theorem ops_abs : OpS K oAbs (fun xs H Q => ∃ i, xs = [.int i] ∧ Q (.int (if i < 0 then -i else i)) H) := by
  intro E Hs H σ τ tmp ts vs P Q I vw h k
  unfold oAbs oU at h
  split at h
  · rename_i i
    obtain ⟨x, rfl, hx⟩ := vw.one
    exact ⟨i, by rw [Vw.int.mp hx], k _ _ _ _ _ I.pushI h⟩
  · exact h.elim
@[simp] def oInt (ts : List T) (P : T → Md → Prop) : Prop := match ts with
  | [.int i] => P (.int i) .sh
  | [.bl b] => P (.int (if b = true then 1 else 0)) .sh
  | _ => False
theorem ops_int : OpS K oInt (fun xs H Q => (∃ i, xs = [.int i] ∧ Q (.int i) H) ∨ ∃ k, xs = [.bl k] ∧ Q (.int (if k then 1 else 0)) H) := by
  intro E Hs H σ τ tmp ts vs P Q I vw h k
  unfold oInt at h
  split at h
  · rename_i i
    obtain ⟨x, rfl, hx⟩ := vw.one
    exact .inl ⟨i, by rw [Vw.int.mp hx], k _ _ _ _ _ I.pushI h⟩
  · rename_i b
    obtain ⟨x, rfl, hx⟩ := vw.one
    exact .inr ⟨b, by rw [Vw.bl.mp hx], k _ _ _ _ _ I.pushI h⟩
  · exact h.elim
/-! max, min -/
@[simp] def oMax (ts : List T) (P : T → Md → Prop) : Prop := match ts with
  | [.int i, .int j] => P (.int (if j > i then j else i)) .sh
  | [.lst us] => (match intsT us with
    | some ns => 0 < ns.length ∧ ∀ m, m ∈ ns → (∀ y, y ∈ ns → y ≤ m) → P (.int m) .sh
    | none => False)
  | _ => False
@[simp] def oMin (ts : List T) (P : T → Md → Prop) : Prop := match ts with
  | [.int i, .int j] => P (.int (if j < i then j else i)) .sh
  | [.lst us] => (match intsT us with
    | some ns => 0 < ns.length ∧ ∀ m, m ∈ ns → (∀ y, y ∈ ns → m ≤ y) → P (.int m) .sh
    | none => False)
  | _ => False
def rMaxA (K : PySem.W.Frag) : List V → Hp → VK → Prop := fun xs H Q => (∃ i j, xs = [.int i, .int j] ∧ Q (.int (if j > i then j else i)) H) ∨ rMax K xs H Q
def rMinA (K : PySem.W.Frag) : List V → Hp → VK → Prop := fun xs H Q => (∃ i j, xs = [.int i, .int j] ∧ Q (.int (if j < i then j else i)) H) ∨ rMin K xs H Q
theorem call_maxA (hc : X.calm = true) : CallR X (.builtin "max") (rMaxA X.K) := (call_max2 hc).or (cr_max hc)
theorem call_minA (hc : X.calm = true) : CallR X (.builtin "min") (rMinA X.K) := (call_min2 hc).or (cr_min hc)
theorem ops_max : OpS K oMax (rMaxA K) := by
  intro E Hs H σ τ tmp ts vs P Q I vw h k
  unfold oMax at h
  split at h
  · obtain ⟨x, y, rfl, hx, hy⟩ := vw.two
    exact .inl ⟨_, _, by rw [Vw.int.mp hx, Vw.int.mp hy], k _ _ _ _ _ I.pushI h⟩
  · obtain ⟨x, rfl, hx⟩ := vw.one
    split at h
    · rename_i ns e
      have e := intsT_some e
      subst e
      obtain ⟨a, ws, rfl, q, r⟩ := hx.lst I.le
      have ew := r.ints
      subst ew
      exact .inr ⟨a, ns, rfl, SqL.of q, h.1, fun m h1 h2 => k _ _ _ _ _ I.pushI (h.2 m h1 h2)⟩
    · exact h.elim
  · exact h.elim
theorem ops_min : OpS K oMin (rMinA K) := by
  intro E Hs H σ τ tmp ts vs P Q I vw h k
  unfold oMin at h
  split at h
  · obtain ⟨x, y, rfl, hx, hy⟩ := vw.two
    exact .inl ⟨_, _, by rw [Vw.int.mp hx, Vw.int.mp hy], k _ _ _ _ _ I.pushI h⟩
  · obtain ⟨x, rfl, hx⟩ := vw.one
    split at h
    · rename_i ns e
      have e := intsT_some e
      subst e
      obtain ⟨a, ws, rfl, q, r⟩ := hx.lst I.le
      have ew := r.ints
      subst ew
      exact .inr ⟨a, ns, rfl, SqL.of q, h.1, fun m h1 h2 => k _ _ _ _ _ I.pushI (h.2 m h1 h2)⟩
    · exact h.elim
  · exact h.elim
/-! sum of ints, all, any -/
@[simp] def oSum (ts : List T) (P : T → Md → Prop) : Prop := match ts with
  | [.lst us] => (match intsT us with
    | some ns => P (.int ns.sum) .sh
    | none => False)
  | _ => False
theorem ops_sum : OpS K oSum (rSum K) := by
  intro E Hs H σ τ tmp ts vs P Q I vw h k
  unfold oSum at h
  split at h
  · obtain ⟨x, rfl, hx⟩ := vw.one
    split at h
    · rename_i ns e
      have e := intsT_some e
      subst e
      obtain ⟨a, ws, rfl, q, r⟩ := hx.lst I.le
      have ew := r.ints
      subst ew
      exact ⟨a, ns, rfl, SqL.of q, k _ _ _ _ _ I.pushI h⟩
    · exact h.elim
  · exact h.elim
def blsT : List T → Option (List Bool)
  | [] => some []
  | .bl i :: r => (blsT r).map (i :: ·)
  | _ => none
theorem blsT_some : ∀ {ts : List T} {ns : List Bool}, blsT ts = some ns → ts = ns.map T.bl
  | [], ns, h => by simp [blsT] at h; subst h; rfl
  | t :: r, ns, h => by
    cases t <;> simp only [blsT, reduceCtorEq] at h
    rename_i i
    cases e : blsT r with
    | none => rw [e] at h; cases h
    | some ms =>
      rw [e] at h
      simp only [Option.map_some, Option.some.injEq] at h
      subst h
      rw [blsT_some e]; rfl
theorem blsT_map : ∀ ns : List Bool, blsT (ns.map T.bl) = some ns
  | [] => rfl
  | n :: ns => by
    show (blsT (ns.map T.bl)).map (n :: ·) = _
    rw [blsT_map ns]; rfl
theorem RL.bls {Hs : Hp} : ∀ {ns : List Bool} {vs : List V}, RL K Hs (ns.map T.bl) vs → vs = ns.map V.bl
  | [], _, h => RL.nil.mp h
  | n :: ns, _, h => by
    obtain ⟨v, r, rfl, h1, h2⟩ := RL.cons.mp h
    simp only [R] at h1
    rw [h1, RL.bls h2]; rfl
@[simp] def oAll (ts : List T) (P : T → Md → Prop) : Prop := match ts with
  | [.lst us] => (match blsT us with
    | some ns => P (.bl (ns.all id)) .sh
    | none => False)
  | _ => False
@[simp] def oAny (ts : List T) (P : T → Md → Prop) : Prop := match ts with
  | [.lst us] => (match blsT us with
    | some ns => P (.bl (ns.any id)) .sh
    | none => False)
  | _ => False
theorem ops_all : OpS K oAll (rAll K) := by
  intro E Hs H σ τ tmp ts vs P Q I vw h k
  unfold oAll at h
  split at h
  · obtain ⟨x, rfl, hx⟩ := vw.one
    split at h
    · rename_i ns e
      have e := blsT_some e
      subst e
      obtain ⟨a, ws, rfl, q, r⟩ := hx.lst I.le
      have ew := r.bls
      subst ew
      exact ⟨a, ns, rfl, SqL.of q, k _ _ _ _ _ I.pushB h⟩
    · exact h.elim
  · exact h.elim
theorem ops_any : OpS K oAny (rAny K) := by
  intro E Hs H σ τ tmp ts vs P Q I vw h k
  unfold oAny at h
  split at h
  · obtain ⟨x, rfl, hx⟩ := vw.one
    split at h
    · rename_i ns e
      have e := blsT_some e
      subst e
      obtain ⟨a, ws, rfl, q, r⟩ := hx.lst I.le
      have ew := r.bls
      subst ew
      exact ⟨a, ns, rfl, SqL.of q, k _ _ _ _ _ I.pushB h⟩
    · exact h.elim
  · exact h.elim
/-! list, tuple of a sequence -/
@[simp] def oList (ts : List T) (P : T → Md → Prop) : Prop := match ts with
  | [t] => (match seqT t with
    | some us => P (.lst us) .ow
    | none => False)
  | _ => False
theorem ops_list : OpS K oList (fun xs H Q => ∃ p ys, xs = [.ref p] ∧ (SqL K H p ys ∨ SqT K H p ys) ∧ ∀ l, H l = none → Q (.ref l) (upd H l (.lst ys))) := by
  intro E Hs H σ τ tmp ts vs P Q I vw h k
  unfold oList at h
  split at h
  · obtain ⟨x, rfl, hx⟩ := vw.one
    split at h
    · rename_i us e
      obtain ⟨a, ws, rfl, q, r⟩ := hx.seq I.le e
      exact ⟨a, ws, rfl, q, fun l hl => k _ _ _ _ _ (I.lstNew hl r) h⟩
    · exact h.elim
  · exact h.elim
@[simp] def oTuple (ts : List T) (P : T → Md → Prop) : Prop := match ts with
  | [.tup us] => P (.tup us) .sh
  | [.lst us] => P (.tup us) .sh
  | _ => False
theorem ops_tuple : OpS K oTuple (fun xs H Q => ∃ p ys, xs = [.ref p] ∧ ((SqL K H p ys ∧ ∀ l, H l = none → Q (.ref l) (upd H l (.tup ys))) ∨ (SqT K H p ys ∧ Q (.ref p) H))) := by
  intro E Hs H σ τ tmp ts vs P Q I vw h k
  unfold oTuple at h
  split at h
  · obtain ⟨x, rfl, hx⟩ := vw.one
    obtain ⟨a, ws, e, q, r⟩ := hx.tup I.le
    refine ⟨a, ws, by rw [e], .inr ⟨SqT.of q, ?_⟩⟩
    rw [← e]
    exact k _ _ _ _ _ (I.push hx.tupR) h
  · obtain ⟨x, rfl, hx⟩ := vw.one
    obtain ⟨a, ws, rfl, q, r⟩ := hx.lst I.le
    exact ⟨a, ws, rfl, .inl ⟨SqL.of q, fun l hl => k _ _ _ _ _ (I.tupNew hl r) h⟩⟩
  · exact h.elim
/-! isinstance against a built-in type -/
@[simp] def tyT : T → String
  | .non => "NoneType"
  | .bl _ => "bool"
  | .int _ => "int"
  | .str _ => "str"
  | .tup _ => "tuple"
  | .ktup _ => "tuple"
  | .lst _ => "list"
  | .frl _ => "list"
  | .dic _ _ => "dict"
  | .dit _ _ => "dict"
@[simp] def isKT : T → Bool
  | .ktup _ => true
  | .frl _ => true
  | _ => false
theorem Vw.ty {Hs H : Hp} {t : T} {v : V} (l : Le Hs H) (h : Vw K Hs H t v) (hk : isKT t = false) : TyX K H v (.type (tyT t)) := by
  cases t with
  | non => rw [Vw.non.mp h]; exact .base .non
  | bl b => rw [Vw.bl.mp h]; exact .base (.bl b)
  | int i => rw [Vw.int.mp h]; exact .base (.int i)
  | str x => rw [Vw.str.mp h]; exact .base (.str x)
  | tup us => obtain ⟨a, ws, rfl, q, _⟩ := h.tup l; exact .base (.tup q)
  | lst us => obtain ⟨a, ws, rfl, q, _⟩ := h.lst l; exact .base (.lst q)
  | dic ks us => obtain ⟨a, o, ws, rfl, q, ⟨l', rfl, _⟩, _⟩ := h.dic l; exact .base (.dK q)
  | dit ks us => obtain ⟨a, o, ws, rfl, q, ⟨l', rfl, _⟩, _⟩ := h.dit l; exact .base (.dT q)
  | ktup us => cases hk
  | frl us => cases hk
@[simp] def oIsi (n : String) (ts : List T) (P : T → Md → Prop) : Prop := match ts with
  | [t] => isKT t = false ∧ (match kitB (tyT t) n with
    | some b => P (.bl b) .sh
    | none => False)
  | _ => False
@[simp] def wIsi (n : String) (o : Opd) : WE := wOp (oIsi n) [o]
theorem le_isi {e : Expr} {n : String} {y : Str} {p p2 pos : Pos} {o : Opd} (hg : Gl X "isinstance") (hm : X.mg "isinstance" = none) (hg2 : Gl X y) (hm2 : X.mg y = none) (hv2 : bootBuiltins y = some (.type n)) (he : LO X e o)
    (hn2 : y ≠ "__name__" := by decide) (hd2 : (y == ("__debug__" : Str)) = false := by decide)
    (hs : starEach [e, .Name y p2] X.env = (false, eval e X.env) :: starEach [.Name y p2] X.env := by rfl) (hpl : (backTo pos (starEach [.Name y p2] X.env)).any (·.1) = false := by rfl)
    (hs2 : starEach [.Name y p2] X.env = (false, eval (.Name y p2) X.env) :: starEach [] X.env := by rfl) :
    LE X (.Call (.Name "isinstance" p) [e, .Name y p2] [] pos) (wIsi n o) := by
  have h2 : PE X (.Name y p2) (tC (.ty n)) := pe_bltn (u := .type n) hg2 hm2 hv2 rfl hn2 hd2
  refine PE.imp (pe_callB call_isi hg hm (by decide +kernel) (pa_cons he (pa_cons h2 pa_nil hs2) hs) (by decide) (by decide) hs hpl) fun σ H Q hw => ?_
  obtain ⟨E, Hs, τ, tmp, PQ, I, hw, hq⟩ := hw
  refine opds (K := X.K) [o] (Q := fun vs H1 => rIsi X.K (vs ++ [.ty n]) H1 Q) I hw fun Hs1 H1 τ1 tmp1 ts vs I1 vw p => ?_
  unfold oIsi at p
  split at p
  · obtain ⟨x, rfl, hx⟩ := vw.one
    obtain ⟨hk, p⟩ := p
    split at p
    · rename_i b eb
      exact ⟨x, .ty n, _, .type n, b, rfl, .ty n, hx.ty I1.le hk, kit_ty eb, hq _ _ _ _ _ _ I1.pop.pushB p⟩
    · exact p.elim
  · exact p.elim
end
end Z

set_option Elab.async false
set_option linter.all false
set_option maxRecDepth 100000
set_option maxHeartbeats 1000000
/-! Z6: statements. -/
namespace Z
open PySem PySem.Spec PyProof.Rows L2

section
variable {K : PySem.W.Frag} {E : Ent} {Hs H Hs' H' : Hp} {σ σ' : L2.St} {τ τ' : PSt} {tmp tmp' : Tmp} {t : T} {m : Md} {v : V} {a : Addr} {o : HO}
/-- a slot's thing is taken in hand, the slot is told no more -/
theorem INV.take {i : Nat} (I : INV K E Hs H σ τ tmp) (e : τ[i]? = some (some (t, m))) (hm : m ≠ .pn) : ∃ v, σ[i]? = some (some v) ∧ INV K E Hs H σ (τ.set i none) (tmp ++ [(v, t, m)]) := by
  have hi : i < τ.length := (List.getElem?_eq_some_iff.mp e).1
  obtain ⟨v, ev, k⟩ := I.sl i t m e
  refine ⟨v, ev, ?_⟩
  have hset : ∀ (j : Nat) t' m', (τ.set i none)[j]? = some (some (t', m')) → j ≠ i ∧ τ[j]? = some (some (t', m')) := fun j t' m' q => by
    by_cases hj : i = j
    · subst hj
      rw [List.getElem?_set_self hi] at q
      cases q
    · rw [List.getElem?_set_ne hj] at q
      exact ⟨fun z => hj z.symm, q⟩
  have hj : ∀ (j : Nat) (v' : V) (t' : T) (m' : Md), (tmp ++ [(v, t, m)])[j]? = some (v', t', m') → tmp[j]? = some (v', t', m') ∨ (j = tmp.length ∧ v' = v ∧ t' = t ∧ m' = m) := fun j v' t' m' e => by
    rw [List.getElem?_append] at e
    split at e
    · exact .inl e
    · refine .inr ?_
      rename_i hn
      rw [List.getElem?_singleton] at e
      split at e
      · cases e; exact ⟨by omega, rfl, rfl, rfl⟩
      · cases e
  refine I.str (fun x => if x = .inr tmp.length then .inl i else x) (by rw [List.length_set]; exact I.len) (fun j t' m' q => I.sl j t' m' (hset j t' m' q).2) (fun j v' t' m' q => ?_) (fun x b h => ?_) (fun x y b h1 h2 q => ?_) (fun j b hb => ?_) (fun j t' q => I.pq j t' (hset j t' _ q).2) (fun j v' t' q => ?_)
  · rcases hj j v' t' m' q with q | ⟨_, rfl, rfl, rfl⟩
    · exact I.tm j v' t' m' q
    · exact k
  · cases x with
    | inl j =>
      obtain ⟨e1, t', m', e2, hm'⟩ := h
      rw [if_neg (fun z => by cases z)]
      exact ⟨e1, t', m', (hset j t' m' e2).2, hm'⟩
    | inr j =>
      obtain ⟨t', m', e2, hm'⟩ := h
      rcases hj j _ t' m' e2 with q | ⟨rfl, rfl, rfl, rfl⟩
      · rw [if_neg (fun z => by
          cases z
          have := (List.getElem?_eq_some_iff.mp q).1
          omega)]
        exact ⟨t', m', q, hm'⟩
      · rw [if_pos rfl]
        exact ⟨ev, _, _, e, hm'⟩
  · have no : ∀ z, Ow σ (τ.set i none) (tmp ++ [(v, t, m)]) z b → z ≠ .inl i := fun z h e => by
      subst e
      obtain ⟨_, t', m', e2, _⟩ := h
      exact (hset i t' m' e2).1 rfl
    by_cases hx : x = .inr tmp.length
    · by_cases hy : y = .inr tmp.length
      · rw [hx, hy]
      · simp only [hx, if_true, hy, if_false] at q
        exact absurd q.symm (no y h2)
    · by_cases hy : y = .inr tmp.length
      · simp only [hy, if_true, hx, if_false] at q
        exact absurd q (no x h1)
      · simp only [hx, hy, if_false] at q
        exact q
  · obtain ⟨e1, t', e2⟩ := I.pn j b hb
    refine ⟨e1, t', ?_⟩
    by_cases hj : i = j
    · subst hj; rw [e] at e2; cases e2; exact absurd rfl hm
    · rw [List.getElem?_set_ne hj]; exact e2
  · rcases hj j v' t' .pn q with q | ⟨_, _, _, q⟩
    · exact I.tp j v' t' q
    · exact absurd q.symm hm
/-- not lent -/
def np : Option (T × Md) → Prop
  | some (_, .pn) => False
  | _ => True
@[simp] theorem np_none : np none := trivial
@[simp] theorem np_sh {t : T} : np (some (t, .sh)) := trivial
@[simp] theorem np_ow {t : T} : np (some (t, .ow)) := trivial
/-- the slot may be stored -/
@[simp] def setOk (τ : PSt) (i : Nat) : Prop := match τ[i]? with
  | none => False
  | some u => np u
theorem setOk.lt {i : Nat} (h : setOk τ i) : i < τ.length := by
  unfold setOk at h
  split at h
  · exact h.elim
  · rename_i e
    exact (List.getElem?_eq_some_iff.mp e).1
theorem setOk.np {i : Nat} (h : setOk τ i) : ∀ t', τ[i]? ≠ some (some (t', .pn)) := fun t' e => by
  unfold setOk at h
  rw [e] at h
  exact h
theorem setOk.set {i j : Nat} {x : Option (T × Md)} (h : setOk τ i) (hij : i ≠ j) : setOk (τ.set j x) i := by
  unfold setOk at *
  rw [List.getElem?_set_ne (Ne.symm hij)]
  exact h
end

/-! ### a name's value is moved -/
@[simp] def wMv (i : Nat) (τ : PSt) (Q : T → Md → PSt → Prop) : Prop := match τ[i]? with
  | some (some (t, .sh)) => Q t .sh τ
  | some (some (t, .ow)) => Q t .ow (τ.set i none)
  | _ => False
theorem le_mv {X : Cx} {pos : Pos} {i : Nat} {x : Str} (hN : X.N[i]? = some x) (hv : Vis X.env.scope x) (hd : (x == ("__debug__" : Str)) = false := by decide) (hcd : (x == ("__classdict__" : Str)) = false := by decide) : LE X (.Name x pos) (wMv i) :=
  (pe_var hN hv hd hcd).imp fun σ H Q hw => by
    obtain ⟨E, Hs, τ, tmp, PQ, I, hw, hq⟩ := hw
    unfold wMv at hw
    split at hw
    · rename_i t e
      obtain ⟨v, e1, k⟩ := I.sl i t .sh e
      exact ⟨v, e1, hq Hs H τ t .sh v (I.push k) hw⟩
    · rename_i t e
      obtain ⟨v, e1, I2⟩ := I.take e (by decide)
      exact ⟨v, e1, hq Hs H _ t .ow v I2 hw⟩
    · exact hw.elim

/-! ### statements -/
structure PEnds where
  nx : PSt → Prop
  rt : T → Md → PSt → Prop
  bk : PSt → Prop := fun _ => False
  ct : PSt → Prop := fun _ => False
abbrev WS := PEnds → PSt → Prop
structure EndsOk (K : PySem.W.Frag) (E : Ent) (tmp : Tmp) (P : PEnds) (D : Ends) : Prop where
  nx : ∀ Hs H σ τ, INV K E Hs H σ τ tmp → P.nx τ → D.nx σ H
  rt : ∀ Hs H σ τ t m v, INV K E Hs H σ τ (tmp ++ [(v, t, m)]) → P.rt t m τ → D.rt v H
  bk : ∀ Hs H σ τ, INV K E Hs H σ τ tmp → P.bk τ → D.bk σ H
  ct : ∀ Hs H σ τ, INV K E Hs H σ τ tmp → P.ct τ → D.ct σ H
def tS (K : PySem.W.Frag) (w : WS) : TS := fun D σ H => ∃ E Hs τ tmp P, INV K E Hs H σ τ tmp ∧ w P τ ∧ EndsOk K E tmp P D
abbrev LS (X : Cx) (st : Stmt) (w : WS) : Prop := PS X st (tS X.K w)
abbrev LSs (X : Cx) (st : List Stmt) (w : WS) : Prop := PSs X st (tS X.K w)
theorem _root_.L2.PS.imp {X : Cx} {e : Stmt} {t t' : TS} (h : PS X e t') (i : ∀ D σ H, t D σ H → t' D σ H) : PS X e t := ⟨fun pins s σ H Q I hw => h.run pins s σ H Q I (i Q σ H hw)⟩
theorem _root_.L2.PSs.imp {X : Cx} {e : List Stmt} {t t' : TS} (h : PSs X e t') (i : ∀ D σ H, t D σ H → t' D σ H) : PSs X e t := ⟨fun pins s σ H Q I hw => h.run pins s σ H Q I (i Q σ H hw)⟩
section
variable {X : Cx} {st : Stmt} {rest : List Stmt} {pos : Pos} {e : Expr}
@[simp] def wNx (P : PEnds) (τ : PSt) : Prop := P.nx τ
@[simp] def wSeq (a b : WS) (P : PEnds) (τ : PSt) : Prop := a { P with nx := b P } τ
theorem lss_nil : LSs X [] wNx := pss_nil.imp fun D σ H hw => by
  obtain ⟨E, Hs, τ, tmp, P, I, hw, q⟩ := hw
  exact q.nx Hs H σ τ I hw
theorem lss_cons {a b : WS} (h1 : LS X st a) (h2 : LSs X rest b) : LSs X (st :: rest) (wSeq a b) := (pss_cons h1 h2).imp fun D σ H hw => by
  obtain ⟨E, Hs, τ, tmp, P, I, hw, q⟩ := hw
  exact ⟨E, Hs, τ, tmp, { P with nx := b P }, I, hw, fun Hs' H' σ' τ' I' h => ⟨E, Hs', τ', tmp, P, I', h, q⟩, q.rt, q.bk, q.ct⟩
theorem lss_one {a : WS} (h1 : LS X st a) : LSs X [st] a := pss_one h1
@[simp] def wNever (_ : PEnds) (_ : PSt) : Prop := False
theorem lss_never {sts : List Stmt} : LSs X sts wNever := (pss_never (X := X)).imp fun D σ H hw => by
  obtain ⟨E, Hs, τ, tmp, P, I, hw, q⟩ := hw
  exact hw
theorem ls_never : LS X st wNever := (ps_never (X := X)).imp fun D σ H hw => by
  obtain ⟨E, Hs, τ, tmp, P, I, hw, q⟩ := hw
  exact hw
theorem ls_pass : LS X (.Pass pos) wNx := ps_pass.imp fun D σ H hw => by
  obtain ⟨E, Hs, τ, tmp, P, I, hw, q⟩ := hw
  exact q.nx Hs H σ τ I hw
@[simp] def wBrk (P : PEnds) (τ : PSt) : Prop := P.bk τ
@[simp] def wCnt (P : PEnds) (τ : PSt) : Prop := P.ct τ
theorem ls_break : LS X (.Break pos) wBrk := ps_break.imp fun D σ H hw => by
  obtain ⟨E, Hs, τ, tmp, P, I, hw, q⟩ := hw
  exact q.bk Hs H σ τ I hw
theorem ls_continue : LS X (.Continue pos) wCnt := ps_continue.imp fun D σ H hw => by
  obtain ⟨E, Hs, τ, tmp, P, I, hw, q⟩ := hw
  exact q.ct Hs H σ τ I hw
theorem ls_doc {x j pos pos'} : LS X (.Expr (.Constant (.str x) j pos) pos') wNx := ps_doc.imp fun D σ H hw => by
  obtain ⟨E, Hs, τ, tmp, P, I, hw, q⟩ := hw
  exact q.nx Hs H σ τ I hw
@[simp] def wDrop (w : WE) (P : PEnds) (τ : PSt) : Prop := w τ fun _ _ τ' => P.nx τ'
theorem ls_expr {w : WE} (he : LE X e w) (hs : swapsWith e none pos.line X.env = pure false := by rfl) : LS X (.Expr e pos) (wDrop w) := (ps_expr he hs).imp fun D σ H hw => by
  obtain ⟨E, Hs, τ, tmp, P, I, hw, q⟩ := hw
  exact ⟨E, Hs, τ, tmp, _, I, hw, fun Hs' H' τ' t m v I' p => q.nx Hs' H' σ τ' I'.pop p⟩
@[simp] def wRet (w : WE) (P : PEnds) (τ : PSt) : Prop := w τ P.rt
theorem ls_ret {w : WE} (he : LE X e w) : LS X (.Return (some e) pos) (wRet w) := (ps_ret he).imp fun D σ H hw => by
  obtain ⟨E, Hs, τ, tmp, P, I, hw, q⟩ := hw
  exact ⟨E, Hs, τ, tmp, _, I, hw, fun Hs' H' τ' t m v I' p => q.rt Hs' H' σ τ' t m v I' p⟩
@[simp] def wRetN (P : PEnds) (τ : PSt) : Prop := P.rt .non .sh τ
theorem ls_retN : LS X (.Return none pos) wRetN := ps_retN.imp fun D σ H hw => by
  obtain ⟨E, Hs, τ, tmp, P, I, hw, q⟩ := hw
  exact q.rt Hs H σ τ .non .sh .non (I.push (by simp only [R])) hw
@[simp] def wIfS (c : WB) (a b : WS) (P : PEnds) (τ : PSt) : Prop := c τ fun k τ' => if k = true then a P τ' else b P τ'
theorem ls_if {c : Expr} {p r : List Stmt} {wc : WB} {a b : WS} (hc : LB X c wc) (ha : LSs X p a) (hb : LSs X r b) : LS X (.If c p r pos) (wIfS wc a b) := (ps_if hc ha hb).imp fun D σ H hw => by
  obtain ⟨E, Hs, τ, tmp, P, I, hw, q⟩ := hw
  refine ⟨E, Hs, τ, tmp, _, I, hw, fun Hs' H' τ' k I' p => ?_⟩
  cases k
  · exact ⟨E, Hs', τ', tmp, P, I', p, q⟩
  · exact ⟨E, Hs', τ', tmp, P, I', p, q⟩
def wWhile (c : WB) (b : WS) (P : PEnds) (τ : PSt) : Prop := ∃ W : Nat → PSt → Prop, (∃ m, W m τ) ∧ ∀ m τ, W m τ → c τ fun k τ1 =>
  if k = true then b { P with nx := fun τ' => ∃ m', m' < m ∧ W m' τ', ct := fun τ' => ∃ m', m' < m ∧ W m' τ', bk := P.nx } τ1 else P.nx τ1
theorem ls_while {c : Expr} {body : List Stmt} {wc : WB} {b : WS} (hp : PassesOwn (model X.prog X.w) X.A X.env X.xe) (hc : LB X c wc) (hb : LSs X body b) : LS X (.While c body [] pos) (wWhile wc b) := (ps_while hp hc hb).imp fun D σ H hw => by
  obtain ⟨E, Hs, τ, tmp, P, I, ⟨W, ⟨m0, w0⟩, turn⟩, q⟩ := hw
  refine ⟨fun m σ H => ∃ Hs τ, INV X.K E Hs H σ τ tmp ∧ W m τ, ⟨m0, Hs, τ, I, w0⟩, ?_⟩
  rintro m σ1 H1 ⟨Hs1, τ1, I1, w1⟩
  refine ⟨E, Hs1, τ1, tmp, _, I1, turn m τ1 w1, fun Hs2 H2 τ2 k I2 p => ?_⟩
  cases k
  · exact q.nx Hs2 H2 σ1 τ2 I2 p
  · refine ⟨fun σ' H' => ∃ Hs τ, INV X.K E Hs H' σ' τ tmp ∧ ∃ m', m' < m ∧ W m' τ, ?_, ?_⟩
    · rintro σ' H' ⟨Hs', τ', I', m', hm, w'⟩
      exact ⟨m', hm, Hs', τ', I', w'⟩
    · exact ⟨E, Hs2, τ2, tmp, _, I2, p, fun Hs' H' σ' τ' I' h => ⟨Hs', τ', I', h⟩, q.rt, fun Hs' H' σ' τ' I' h => q.nx Hs' H' σ' τ' I' h, fun Hs' H' σ' τ' I' h => ⟨Hs', τ', I', h⟩⟩
/-! ### assignments -/
@[simp] def wSet (i : Nat) (w : WE) (P : PEnds) (τ : PSt) : Prop := w τ fun t m τ' => setOk τ' i ∧ P.nx (τ'.set i (some (t, m)))
theorem set_imp {i : Nat} {w : WE} {te : TE} (h : ∀ σ H Q, tE X.K w σ H Q → te σ H Q) : ∀ D σ H, tS X.K (wSet i w) D σ H → tAsg te (gName i) D σ H := fun D σ H hw => by
  obtain ⟨E, Hs, τ, tmp, P, I, hw, q⟩ := hw
  refine h σ H _ ⟨E, Hs, τ, tmp, _, I, hw, fun Hs' H' τ' t m v I' p => ?_⟩
  exact q.nx Hs' H' _ _ (I'.store p.1.lt p.1.np) p.2
theorem ls_set {i : Nat} {x : Str} {pos' : Pos} {w : WE} (hN : X.N.Nodup) (hi : X.N[i]? = some x) (hx : Loc X.env.scope x) (he : LE X e w) (hs : swapsWith e (some (.Name x pos')) pos.line X.env = pure false := by rfl) (hf : X.fn x = true ∨ X.env.scope.names.lookup x = some .local := by first | exact .inl rfl | exact .inr rfl | assumption) :
    LS X (.Assign [.Name x pos'] e pos) (wSet i w) := (ps_set hN hi hx he hs hf).imp (set_imp fun _ _ _ h => h)
/-- two names at once -/
@[simp] def wPar (i j : Nat) (a b : WE) (P : PEnds) (τ : PSt) : Prop := a τ fun t m τ1 => b τ1 fun t' m' τ2 => setOk τ2 i ∧ setOk τ2 j ∧ P.nx ((τ2.set j (some (t', m'))).set i (some (t, m)))
theorem ls_par {i j : Nat} {x y : Str} {a b : Expr} {px py pt : Pos} {kt k2 pt2} {wa wb : WE} (hc : X.calm = true) (hN : X.N.Nodup) (hi : X.N[i]? = some x) (hj : X.N[j]? = some y) (hij : i ≠ j)
    (hx : X.env.scope.names.lookup x = some .local) (hy : X.env.scope.names.lookup y = some .local) (ha : LE X a wa) (hb : LE X b wb)
    (hw : swappedStores [.Tuple [.Name x px, .Name y py] kt pt] (.Tuple [a, b] k2 pt2) X.env = pure (some [x, y]))
    (hs : swapsWithSole [.Tuple [.Name x px, .Name y py] kt pt] (.Tuple [a, b] k2 pt2) pos.line X.env = pure false := by rfl)
    (hs1 : starEach [a, b] X.env = (false, eval a X.env) :: starEach [b] X.env := by rfl) (hs2 : starEach [b] X.env = (false, eval b X.env) :: starEach [] X.env := by rfl) :
    LS X (.Assign [.Tuple [.Name x px, .Name y py] kt pt] (.Tuple [a, b] k2 pt2) pos) (wPar i j wa wb) := (ps_par hc hN hi hj hij hx hy (pa_cons ha (pa_cons hb pa_nil hs2) hs1) hw hs).imp fun D σ H hw => by
  obtain ⟨E, Hs, τ, tmp, P, I, hw, q⟩ := hw
  refine ⟨E, Hs, τ, tmp, _, I, hw, fun Hs1 H1 τ1 t m v I1 p1 => ?_⟩
  refine ⟨E, Hs1, τ1, _, _, I1, p1, fun Hs2 H2 τ2 t' m' v' I2 p2 => ?_⟩
  refine ⟨v, v', rfl, ?_⟩
  rw [List.set_comm _ _ hij]
  exact q.nx Hs2 H2 _ _ ((I2.store p2.2.1.lt p2.2.1.np).store (by rw [List.length_set]; exact p2.1.lt) (p2.1.set hij).np) p2.2.2
end
end Z

set_option Elab.async false
set_option linter.all false
set_option maxRecDepth 100000
set_option maxHeartbeats 1000000
/-! Z7: targets, stores, methods, loops. -/
namespace Z
open PySem PySem.Spec PyProof.Rows L2

/-! ### targets -/
abbrev WG := T → PSt → (PSt → Prop) → Prop
abbrev WGs := List T → PSt → (PSt → Prop) → Prop
def Chg (ks : List Nat) (σ σ' : L2.St) : Prop := σ'.length = σ.length ∧ ∀ i, i ∉ ks → σ'[i]? = σ[i]?
theorem Chg.refl {ks : List Nat} {σ : L2.St} : Chg ks σ σ := ⟨rfl, fun _ _ => rfl⟩
theorem Chg.trans {ks : List Nat} {σ σ' σ'' : L2.St} (h : Chg ks σ σ') (h' : Chg ks σ' σ'') : Chg ks σ σ'' := ⟨h'.1.trans h.1, fun i hi => (h'.2 i hi).trans (h.2 i hi)⟩
theorem Chg.mono {ks ls : List Nat} {σ σ' : L2.St} (h : Chg ks σ σ') (l : ∀ i ∈ ks, i ∈ ls) : Chg ls σ σ' := ⟨h.1, fun i hi => h.2 i fun z => hi (l i z)⟩
theorem wipe_get {σ : L2.St} {i : Nat} : ∀ {vs : List Nat}, (wipe σ vs)[i]? = if i ∈ vs then (σ[i]?).map fun _ => none else σ[i]?
  | [] => by simp [wipe]
  | v :: vs => by
    unfold wipe
    by_cases h : v = i
    · subst h
      rw [List.getElem?_set_self']
      rw [wipe_get (vs := vs)]
      simp
      by_cases h2 : v ∈ vs
      · simp [h2]; cases σ[v]? <;> rfl
      · simp [h2]; cases σ[v]? <;> rfl
    · rw [List.getElem?_set_ne h, wipe_get (vs := vs)]
      have : i ≠ v := fun e => h e.symm
      simp [this]
theorem wipe_of {σ σ' : L2.St} {vs : List Nat} (h : Chg vs σ σ') : wipe σ' vs = wipe σ vs := by
  refine List.ext_getElem? fun i => ?_
  rw [wipe_get, wipe_get]
  by_cases hi : i ∈ vs
  · simp only [hi, if_true]
    by_cases hl : i < σ.length
    · have hl' : i < σ'.length := by rw [h.1]; exact hl
      rw [List.getElem?_eq_getElem hl, List.getElem?_eq_getElem hl']; rfl
    · rw [List.getElem?_eq_none (by have := h.1; omega), List.getElem?_eq_none (by omega)]
  · simp only [hi, if_false]
    exact h.2 i hi
theorem Chg.wipe {σ : L2.St} {vs : List Nat} : Chg vs σ (wipe σ vs) := ⟨wipe_length σ vs, fun i hi => by rw [wipe_get]; simp [hi]⟩
def tG (K : PySem.W.Frag) (ks : List Nat) (w : WG) : TG := fun v σ H Q => ∃ E Hs τ tmp t P, INV K E Hs H σ τ tmp ∧ R K Hs t v ∧ w t τ P ∧
  ∀ Hs' H' σ' τ', INV K E Hs' H' σ' τ' tmp → Chg ks σ σ' → P τ' → Q σ' H'
def tGs (K : PySem.W.Frag) (ks : List Nat) (w : WGs) : TGs := fun vs σ H Q => ∃ E Hs τ tmp ts P, INV K E Hs H σ τ tmp ∧ RL K Hs ts vs ∧ w ts τ P ∧
  ∀ Hs' H' σ' τ', INV K E Hs' H' σ' τ' tmp → Chg ks σ σ' → P τ' → Q σ' H'
abbrev LG (X : Cx) (e : Expr) (ks : List Nat) (w : WG) : Prop := PG X e (tG X.K ks w)
abbrev LGs (X : Cx) (es : List Expr) (ks : List Nat) (w : WGs) : Prop := PGs X es (tGs X.K ks w)
theorem _root_.L2.PG.imp {X : Cx} {e : Expr} {t t' : TG} (h : PG X e t') (i : ∀ v σ H Q, t v σ H Q → t' v σ H Q) : PG X e t := ⟨fun pins s σ H v u Q I r hw => h.run pins s σ H v u Q I r (i v σ H Q hw)⟩
theorem _root_.L2.PGs.imp {X : Cx} {e : List Expr} {t t' : TGs} (h : PGs X e t') (i : ∀ v σ H Q, t v σ H Q → t' v σ H Q) : PGs X e t := ⟨fun pins s σ H v u Q I r hw => h.run pins s σ H v u Q I r (i v σ H Q hw)⟩
section
variable {X : Cx} {pos : Pos} {e : Expr} {es : List Expr}
@[simp] def wgNm (i : Nat) (t : T) (τ : PSt) (P : PSt → Prop) : Prop := setOk τ i ∧ P (τ.set i (some (t, .sh)))
theorem lg_nm {i : Nat} {x : Str} (hN : X.N.Nodup) (hi : X.N[i]? = some x) (hx : Loc X.env.scope x) (hf : X.fn x = true ∨ X.env.scope.names.lookup x = some .local := by first | exact .inl rfl | exact .inr rfl | assumption) : LG X (.Name x pos) [i] (wgNm i) :=
  (pg_name hN hi hx hf).imp fun v σ H Q hw => by
    obtain ⟨E, Hs, τ, tmp, t, P, I, r, hw, q⟩ := hw
    refine q Hs H _ _ ((I.push r).store hw.1.lt hw.1.np) ⟨List.length_set, fun j hj => ?_⟩ hw.2
    rw [List.getElem?_set_ne fun z => hj (by simp [z])]
@[simp] def wgNil (ts : List T) (τ : PSt) (P : PSt → Prop) : Prop := ts = [] ∧ P τ
@[simp] def wgCons (g : WG) (gs : WGs) (ts : List T) (τ : PSt) (P : PSt → Prop) : Prop := match ts with
  | t :: r => g t τ fun τ' => gs r τ' P
  | [] => False
theorem lgs_nil : LGs X [] [] wgNil := pgs_nil.imp fun v σ H Q hw => by
  obtain ⟨E, Hs, τ, tmp, t, P, I, r, hw, q⟩ := hw
  obtain ⟨rfl, p⟩ := hw
  exact ⟨RL.nil.mp r, q Hs H σ τ I Chg.refl p⟩
theorem lgs_cons {ks ls : List Nat} {g : WG} {gs : WGs} (h1 : LG X e ks g) (h2 : LGs X es ls gs) (hs : (assignEach (e :: es) X.env).map (·.2) = assign e X.env :: (assignEach es X.env).map (·.2) := by rfl) : LGs X (e :: es) (ks ++ ls) (wgCons g gs) :=
  (pgs_cons h1 h2 hs).imp fun vs σ H Q hw => by
    obtain ⟨E, Hs, τ, tmp, ts, P, I, r, hw, q⟩ := hw
    cases ts with
    | nil => exact hw.elim
    | cons t ts =>
      obtain ⟨v, vr, rfl, r1, r2⟩ := RL.cons.mp r
      refine ⟨v, vr, rfl, E, Hs, τ, tmp ++ shs ts vr, t, _, I.pushL r2, r1, hw, fun Hs' H' σ' τ' I' c p => ?_⟩
      refine ⟨E, Hs', τ', tmp, ts, _, I'.pop, INV.getL (more := []) (by rw [List.append_nil]; exact I') r2.length, p, fun Hs2 H2 σ2 τ2 I2 c2 p2 => ?_⟩
      exact q Hs2 H2 σ2 τ2 I2 ((c.mono fun i hi => List.mem_append_left _ hi).trans (c2.mono fun i hi => List.mem_append_right _ hi)) p2
@[simp] def wgTup (n : Nat) (gs : WGs) (t : T) (τ : PSt) (P : PSt → Prop) : Prop := match t with
  | .tup ts => ts.length = n ∧ gs ts τ P
  | .ktup ts => ts.length = n ∧ gs ts τ P
  | _ => False
theorem lg_tup {k n : Nat} {ks : List Nat} {gs : WGs} (hc : X.calm = true) (h : LGs X es ks gs) (hn : (assignEach es X.env).length = n := by rfl) (hst : (assignEach es X.env).findIdx? (·.1) = none := by rfl) : LG X (.Tuple es k pos) ks (wgTup n gs) :=
  (pg_tup hc h hn hst).imp fun v σ H Q hw => by
    obtain ⟨E, Hs, τ, tmp, t, P, I, r, hw, q⟩ := hw
    cases t <;> first | exact hw.elim | skip
    · simp only [R] at r
      obtain ⟨a, vs, rfl, h1, h2⟩ := r
      exact ⟨a, vs, rfl, SqT.of (I.le _ _ h1), by rw [h2.length]; exact hw.1, E, Hs, τ, tmp, _, _, I, h2, hw.2, q⟩
    · simp only [R] at r
      obtain ⟨a, vs, rfl, h1, h2⟩ := r
      exact ⟨a, vs, rfl, SqT.mono (fun _ _ z => by cases z) h1, by rw [h2.length]; exact hw.1, E, Hs, τ, tmp, _, _, I, h2, hw.2, q⟩
/-- target = value -/
@[simp] def wAsg (w : WV) (g : WG) (P : PEnds) (τ : PSt) : Prop := w τ fun t τ' => g t τ' P.nx
theorem ls_asg {tg : Expr} {w : WV} {ks : List Nat} {g : WG} (he : LV X e w) (hg : LG X tg ks g) (hs : swapsWithSole [tg] e pos.line X.env = pure false := by rfl) (hw : swappedStores [tg] e X.env = pure none := by rfl)
    (h1 : (assignEach [tg] X.env).map (·.2) = [assign tg X.env] := by rfl) : LS X (.Assign [tg] e pos) (wAsg w g) := (ps_asg he hg hs hw h1).imp fun D σ H hw => by
  obtain ⟨E, Hs, τ, tmp, P, I, hw, q⟩ := hw
  refine ⟨E, Hs, τ, tmp, _, I, hw, fun Hs' H' τ' t v I' p => ?_⟩
  exact ⟨E, Hs', τ', tmp, t, _, I'.pop, top1 I', p, fun Hs2 H2 σ2 τ2 I2 _ p2 => q.nx Hs2 H2 σ2 τ2 I2 p2⟩
/-- two names at once, by a tuple -/
theorem ls_parT {i j : Nat} {x y : Str} {a b : Expr} {px py pt : Pos} {kt k2 pt2} {wa wb : WE} (hc : X.calm = true) (hN : X.N.Nodup) (hi : X.N[i]? = some x) (hj : X.N[j]? = some y) (hij : i ≠ j)
    (hx : Loc X.env.scope x) (hy : Loc X.env.scope y) (ha : LE X a wa) (hb : LE X b wb)
    (hw : swappedStores [.Tuple [.Name x px, .Name y py] kt pt] (.Tuple [a, b] k2 pt2) X.env = pure none := by rfl)
    (hs : swapsWithSole [.Tuple [.Name x px, .Name y py] kt pt] (.Tuple [a, b] k2 pt2) pos.line X.env = pure false := by rfl)
    (hs1 : starEach [a, b] X.env = (false, eval a X.env) :: starEach [b] X.env := by rfl) (hs2 : starEach [b] X.env = (false, eval b X.env) :: starEach [] X.env := by rfl)
    (hfx : X.fn x = true ∨ X.env.scope.names.lookup x = some .local := by first | exact .inl rfl | exact .inr rfl | assumption) (hfy : X.fn y = true ∨ X.env.scope.names.lookup y = some .local := by first | exact .inl rfl | exact .inr rfl | assumption) :
    LS X (.Assign [.Tuple [.Name x px, .Name y py] kt pt] (.Tuple [a, b] k2 pt2) pos) (wPar i j wa wb) :=
  (ps_asg (pe_tup (pa_cons ha (pa_cons hb pa_nil hs2) hs1)) (pg_tup (n := 2) hc (pgs_cons (pg_name hN hi hx hfx) (pgs_cons (pg_name hN hj hy hfy) pgs_nil))) hs hw).imp fun D σ H hw => by
  obtain ⟨E, Hs, τ, tmp, P, I, hw, q⟩ := hw
  refine ⟨E, Hs, τ, tmp, _, I, hw, fun Hs1 H1 τ1 t m v I1 p1 => ?_⟩
  refine ⟨E, Hs1, τ1, _, _, I1, p1, fun Hs2 H2 τ2 t' m' v' I2 p2 => ?_⟩
  refine ⟨by show 2 ≤ sizeLine; decide, fun p hp => ?_⟩
  refine ⟨p, [v, v'], rfl, SqT.of upd_same, rfl, ?_⟩
  refine ⟨v, [v'], rfl, v', [], rfl, rfl, ?_⟩
  rw [List.set_comm _ _ hij]
  exact q.nx Hs2 _ _ _ (((I2.alloc0 hp).store p2.2.1.lt p2.2.1.np).store (by rw [List.length_set]; exact p2.1.lt) (p2.1.set hij).np) p2.2.2
/-- three -/
@[simp] def wPar3 (i j l : Nat) (a b c : WE) (P : PEnds) (τ : PSt) : Prop := a τ fun t m τ1 => b τ1 fun t' m' τ2 => c τ2 fun t'' m'' τ3 => setOk τ3 i ∧ setOk τ3 j ∧ setOk τ3 l ∧ P.nx (((τ3.set l (some (t'', m''))).set j (some (t', m'))).set i (some (t, m)))
theorem par3_fin {K : PySem.W.Frag} {E : Ent} {Hs H : Hp} {σ : L2.St} {τ : PSt} {tmp : Tmp} {t t' t'' : T} {m m' m'' : Md} {v v' v'' : V} {i j l : Nat} (hij : i ≠ j) (hil : i ≠ l) (hjl : j ≠ l)
    (I : INV K E Hs H σ τ (tmp ++ [(v, t, m)] ++ [(v', t', m')] ++ [(v'', t'', m'')])) (h1 : setOk τ i) (h2 : setOk τ j) (h3 : setOk τ l) :
    INV K E Hs H (((σ.set i (some v)).set j (some v')).set l (some v'')) (((τ.set l (some (t'', m''))).set j (some (t', m'))).set i (some (t, m))) tmp := by
  have J := ((I.store h3.lt h3.np).store (by rw [List.length_set]; exact h2.lt) (h2.set hjl).np).store (i := i) (by rw [List.length_set, List.length_set]; exact h1.lt) ((h1.set hil).set hij).np
  have e : ((σ.set l (some v'')).set j (some v')).set i (some v) = ((σ.set i (some v)).set j (some v')).set l (some v'') := by
    rw [List.set_comm (some v'') (some v') hjl.symm, List.set_comm (some v'') (some v) hil.symm, List.set_comm (some v') (some v) hij.symm]
  rw [← e]; exact J
theorem ls_par3 {i j l : Nat} {x y z : Str} {a b c : Expr} {px py pz pt : Pos} {kt k2 pt2} {wa wb wc : WE} (hc : X.calm = true) (hN : X.N.Nodup) (hi : X.N[i]? = some x) (hj : X.N[j]? = some y) (hl : X.N[l]? = some z) (hij : i ≠ j) (hil : i ≠ l) (hjl : j ≠ l)
    (hx : X.env.scope.names.lookup x = some .local) (hy : X.env.scope.names.lookup y = some .local) (hz : X.env.scope.names.lookup z = some .local) (ha : LE X a wa) (hb : LE X b wb) (hcc : LE X c wc)
    (hw : swappedStores [.Tuple [.Name x px, .Name y py, .Name z pz] kt pt] (.Tuple [a, b, c] k2 pt2) X.env = pure (some [x, y, z]))
    (hs : swapsWithSole [.Tuple [.Name x px, .Name y py, .Name z pz] kt pt] (.Tuple [a, b, c] k2 pt2) pos.line X.env = pure false := by rfl)
    (hs1 : starEach [a, b, c] X.env = (false, eval a X.env) :: starEach [b, c] X.env := by rfl) (hs2 : starEach [b, c] X.env = (false, eval b X.env) :: starEach [c] X.env := by rfl) (hs3 : starEach [c] X.env = (false, eval c X.env) :: starEach [] X.env := by rfl) :
    LS X (.Assign [.Tuple [.Name x px, .Name y py, .Name z pz] kt pt] (.Tuple [a, b, c] k2 pt2) pos) (wPar3 i j l wa wb wc) := (ps_par3 hc hN hi hj hl hij hil hjl hx hy hz (pa_cons ha (pa_cons hb (pa_cons hcc pa_nil hs3) hs2) hs1) hw hs).imp fun D σ H hw => by
  obtain ⟨E, Hs, τ, tmp, P, I, hw, q⟩ := hw
  refine ⟨E, Hs, τ, tmp, _, I, hw, fun Hs1 H1 τ1 t m v I1 p1 => ?_⟩
  refine ⟨E, Hs1, τ1, _, _, I1, p1, fun Hs2 H2 τ2 t' m' v' I2 p2 => ?_⟩
  refine ⟨E, Hs2, τ2, _, _, I2, p2, fun Hs3 H3 τ3 t'' m'' v'' I3 p3 => ?_⟩
  exact ⟨v, v', v'', rfl, q.nx Hs3 H3 _ _ (par3_fin hij hil hjl I3 p3.1 p3.2.1 p3.2.2.1) p3.2.2.2⟩
theorem ls_par3T {i j l : Nat} {x y z : Str} {a b c : Expr} {px py pz pt : Pos} {kt k2 pt2} {wa wb wc : WE} (hc : X.calm = true) (hN : X.N.Nodup) (hi : X.N[i]? = some x) (hj : X.N[j]? = some y) (hl : X.N[l]? = some z) (hij : i ≠ j) (hil : i ≠ l) (hjl : j ≠ l)
    (hx : Loc X.env.scope x) (hy : Loc X.env.scope y) (hz : Loc X.env.scope z) (ha : LE X a wa) (hb : LE X b wb) (hcc : LE X c wc)
    (hw : swappedStores [.Tuple [.Name x px, .Name y py, .Name z pz] kt pt] (.Tuple [a, b, c] k2 pt2) X.env = pure none := by rfl)
    (hs : swapsWithSole [.Tuple [.Name x px, .Name y py, .Name z pz] kt pt] (.Tuple [a, b, c] k2 pt2) pos.line X.env = pure false := by rfl)
    (hs1 : starEach [a, b, c] X.env = (false, eval a X.env) :: starEach [b, c] X.env := by rfl) (hs2 : starEach [b, c] X.env = (false, eval b X.env) :: starEach [c] X.env := by rfl) (hs3 : starEach [c] X.env = (false, eval c X.env) :: starEach [] X.env := by rfl)
    (hfx : X.fn x = true ∨ X.env.scope.names.lookup x = some .local := by first | exact .inl rfl | exact .inr rfl | assumption) (hfy : X.fn y = true ∨ X.env.scope.names.lookup y = some .local := by first | exact .inl rfl | exact .inr rfl | assumption)
    (hfz : X.fn z = true ∨ X.env.scope.names.lookup z = some .local := by first | exact .inl rfl | exact .inr rfl | assumption) :
    LS X (.Assign [.Tuple [.Name x px, .Name y py, .Name z pz] kt pt] (.Tuple [a, b, c] k2 pt2) pos) (wPar3 i j l wa wb wc) :=
  (ps_asg (pe_tup (pa_cons ha (pa_cons hb (pa_cons hcc pa_nil hs3) hs2) hs1)) (pg_tup (n := 3) hc (pgs_cons (pg_name hN hi hx hfx) (pgs_cons (pg_name hN hj hy hfy) (pgs_cons (pg_name hN hl hz hfz) pgs_nil)))) hs hw).imp fun D σ H hw => by
  obtain ⟨E, Hs, τ, tmp, P, I, hw, q⟩ := hw
  refine ⟨E, Hs, τ, tmp, _, I, hw, fun Hs1 H1 τ1 t m v I1 p1 => ?_⟩
  refine ⟨E, Hs1, τ1, _, _, I1, p1, fun Hs2 H2 τ2 t' m' v' I2 p2 => ?_⟩
  refine ⟨E, Hs2, τ2, _, _, I2, p2, fun Hs3 H3 τ3 t'' m'' v'' I3 p3 => ?_⟩
  refine ⟨by show 3 ≤ sizeLine; decide, fun p hp => ?_⟩
  refine ⟨p, [v, v', v''], rfl, SqT.of upd_same, rfl, ?_⟩
  refine ⟨v, _, rfl, v', _, rfl, v'', [], rfl, rfl, ?_⟩
  exact q.nx Hs3 _ _ _ (par3_fin hij hil hjl (I3.alloc0 hp) p3.1 p3.2.1 p3.2.2.1) p3.2.2.2
end
/-! ### o[i] = v -/
@[simp] def putIx (c ti t : T) (P : T → Prop) : Prop := match c, ti with
  | .lst ts, .int j => (match ixN ts.length j with
    | some n => P (.lst (ts.set n t))
    | none => False)
  | .dic ks vs, ti => (match keyT ti with
    | some k => ks.length < sizeLine ∧ P (.dic (putKs ks k) (putTs ks vs k t))
    | none => False)
  | .dit ks vs, .tup kt => (match keysT kt with
    | some k => ks.length < sizeLine ∧ P (.dit (putKs ks k) (putTs ks vs k t))
    | none => False)
  | _, _ => False
def rSetA : TSet := fun o i v H Q => rSetL o i v H Q ∨ rSetD o i v H Q
theorem set_A {X : Cx} (hu : X.A.units + 1 < cLine) : PSet X rSetA := fun pins s σ H o i v ov iv u Q I ro ri rv h => h.elim (set_list pins s σ H o i v ov iv u Q I ro ri rv) (set_dict hu pins s σ H o i v ov iv u Q I ro ri rv)
section
variable {κ : Type} [DecidableEq κ]
theorem putK_keys (l : List (κ × V)) (k : κ) (v : V) : (putK l k v).map (·.1) = putKs (l.map (·.1)) k := by
  have e : hasK (l.map (·.1)) k = l.any fun kv => decide (kv.1 = k) := by unfold hasK; rw [List.any_map]; rfl
  unfold putK putKs
  rw [e]
  split
  · rw [List.map_map]
    refine List.map_congr_left fun p _ => ?_
    simp only [Function.comp]
    split <;> rfl
  · simp
theorem RL.put1 {K : PySem.W.Frag} {Hs : Hp} {k : κ} {t : T} {v : V} (r : R K Hs t v) : ∀ {l : List (κ × V)} {ts : List T}, RL K Hs ts (l.map (·.2)) →
    RL K Hs (((l.map (·.1)).zip ts).map fun p => if p.1 = k then t else p.2) ((l.map (fun kv => if kv.1 = k then (kv.1, v) else kv)).map (·.2))
  | [], [], _ => RL.nil.mpr rfl
  | [], _ :: _, h => by obtain ⟨_, _, e, _⟩ := RL.cons.mp h; cases e
  | p :: l, [], h => by have := RL.nil.mp h; cases this
  | p :: l, u :: ts, h => by
    obtain ⟨w, rr, e, h1, h2⟩ := RL.cons.mp h
    have e1 : p.2 = w ∧ l.map (·.2) = rr := by
      injection e with e1 e2
      exact ⟨e1, e2⟩
    obtain ⟨rfl, rfl⟩ := e1
    have ih := RL.put1 (k := k) r h2
    by_cases hk : p.1 = k
    · refine RL.cons.mpr ⟨v, _, ?_, ?_, ih⟩
      · simp [hk]
      · simpa [hk] using r
    · refine RL.cons.mpr ⟨p.2, _, ?_, ?_, ih⟩
      · simp [hk]
      · simpa [hk] using h1
theorem RL.put {K : PySem.W.Frag} {Hs : Hp} {k : κ} {t : T} {v : V} {l : List (κ × V)} {ts : List T} (h : RL K Hs ts (l.map (·.2))) (r : R K Hs t v) : RL K Hs (putTs (l.map (·.1)) ts k t) ((putK l k v).map (·.2)) := by
  have e : hasK (l.map (·.1)) k = l.any fun kv => decide (kv.1 = k) := by unfold hasK; rw [List.any_map]; rfl
  unfold putK putTs
  rw [e]
  split
  · exact RL.put1 r h
  · rw [List.map_append]
    exact h.append (RL.one r)
end
theorem putIx_ok {K : PySem.W.Frag} {Hs H : Hp} {c ti t : T} {P : T → Prop} {a : Addr} {o : HO} {vi v : V} {Q : Hp → Prop} (l : Le Hs H) (h : putIx c ti t P) (ho : H a = some o) (hc : CellO K Hs c o) (ri : R K Hs ti vi) (r : R K Hs t v)
    (k : ∀ c' o', CellO K Hs c' o' → P c' → Q (upd H a o')) : rSetA (.ref a) vi v H Q := by
  unfold putIx at h
  split at h
  · rename_i ts j
    obtain ⟨vs, rfl, rl⟩ := hc
    split at h
    · rename_i n e
      have ei := R.int.mp ri
      subst ei
      exact .inl ⟨a, vs, j, n, rfl, rfl, ho, by rw [rl.length]; exact e, k (.lst (ts.set n t)) _ ⟨_, rfl, rl.set n r⟩ h⟩
    · exact h.elim
  · split at h
    · rename_i ks ts _ _ kk ek
      obtain ⟨vs, ⟨l1, rfl, e1, e2⟩, rl⟩ := hc
      have ev := keyT_v (H := Hs) ek (.inl ri)
      subst ev
      subst e1
      subst e2
      refine .inr ⟨a, _, rfl, DPut.k ho (by simpa using h.1), k (.dic _ _) _ ⟨_, ⟨_, rfl, putK_keys _ _ _, rfl⟩, rl.put r⟩ h.2⟩
    · exact h.elim
  · split at h
    · rename_i ks ts kt kk ek
      obtain ⟨vs, ⟨l1, rfl, e1, e2⟩, rl⟩ := hc
      simp only [R] at ri
      obtain ⟨b, ws, rfl, qb, rb⟩ := ri
      have ev := keysT_v ek rb
      subst ev
      subst e1
      subst e2
      refine .inr ⟨a, _, rfl, DPut.t ho (l _ _ qb) (by simpa using h.1), k (.dit _ _) _ ⟨_, ⟨_, rfl, putK_keys _ _ _, rfl⟩, rl.put r⟩ h.2⟩
    · exact h.elim
  · exact h.elim
@[simp] def wgIx (k : Nat) (wi : WV) (t : T) (τ : PSt) (P : PSt → Prop) : Prop := look τ k (fun _ => True) ∧ wi τ fun ti τ1 => match τ1[k]? with
  | some (some (c, m)) => m ≠ .sh ∧ putIx c ti t fun c' => P (τ1.set k (some (c', m)))
  | _ => False
section
variable {X : Cx} {pos : Pos}
theorem lg_ix {k : Nat} {x : Str} {i : Expr} {p : Pos} {wi : WV} (hu : X.A.units + 1 < cLine) (hN : X.N[k]? = some x) (hv : Vis X.env.scope x) (hi : LV X i wi) (hd : (x == ("__debug__" : Str)) = false := by decide) (hcd : (x == ("__classdict__" : Str)) = false := by decide)
    (ha : ∀ v, assign (.Subscript (.Name x p) i pos) X.env v = (do
      let ov ← holding [v] (eval (.Name x p) X.env)
      let iv ← holding [v, ov] (eval i X.env)
      standAt pos
      holding [v, ov, iv] (setItem ov iv v)
      release [v, ov, iv] []) := by intro _; rfl) : LG X (.Subscript (.Name x p) i pos) [] (wgIx k wi) :=
  (pg_sub (pe_var hN hv hd hcd) hi (set_A hu) ha).imp fun v σ H Q hw => by
    obtain ⟨E, Hs, τ, tmp, t, P, I, r, ⟨hl, hw⟩, q⟩ := hw
    unfold look at hl
    split at hl
    · rename_i c0 m0 e0
      obtain ⟨ov, eo, ok0⟩ := I.sl k c0 m0 e0
      refine ⟨ov, eo, E, Hs, τ, tmp ++ [(v, t, .sh)], _, I.push r, hw, fun Hs1 H1 τ1 ti vi I1 p1 => ?_⟩
      split at p1
      · rename_i c m e
        obtain ⟨hm, p1⟩ := p1
        have I0 := I1.pop.pop
        have rt : R X.K Hs1 t v := top1 I1.pop
        have ri : R X.K Hs1 ti vi := top1 I1
        obtain ⟨ov', eo', ok'⟩ := I0.sl k c m e
        rw [eo] at eo'
        obtain rfl : ov = ov' := by injection eo' with z; injection z
        obtain ⟨a, o, rfl, h1, h2, hc⟩ := (OK.own hm).mp ok'
        refine putIx_ok I0.le p1 h2 hc ri rt fun c' o' hc' pc => ?_
        exact q Hs1 _ σ _ (I0.write e eo hm hc') Chg.refl pc
      · exact p1.elim
    · exact hl.elim
end
end Z

set_option Elab.async false
set_option linter.all false
set_option maxRecDepth 100000
set_option maxHeartbeats 1000000
/-! Z8: methods, augmented names, iterables, for. -/
namespace Z
open PySem PySem.Spec PyProof.Rows L2

section
variable {K : PySem.W.Frag} {E : Ent} {Hs H Hs' H' : Hp} {σ σ' : L2.St} {τ τ' : PSt} {tmp tmp' : Tmp} {t : T} {m : Md} {v : V} {a : Addr} {o : HO}
/-- what is in hand, owned, is changed -/
theorem INV.writeT {t' : T} (I : INV K E Hs H σ τ (tmp ++ [(.ref a, t, m)])) (hm : m ≠ .sh) (c : CellO K Hs t' o) : INV K E Hs (upd H a o) σ τ (tmp ++ [(.ref a, t', m)]) := by
  have top : (tmp ++ [(V.ref a, t, m)])[tmp.length]? = some (.ref a, t, m) := by simp
  have own : Ow σ τ (tmp ++ [(V.ref a, t, m)]) (.inr tmp.length) a := ⟨t, m, top, hm⟩
  have hs : Hs a = none := (I.owned own).1
  have hj : ∀ (j : Nat) (v' : V) (u : T) (m' : Md), (tmp ++ [(V.ref a, t', m)])[j]? = some (v', u, m') → (j < tmp.length ∧ (tmp ++ [(V.ref a, t, m)])[j]? = some (v', u, m')) ∨ (j = tmp.length ∧ v' = .ref a ∧ u = t' ∧ m' = m) := fun j v' u m' e => by
    rw [List.getElem?_append] at e
    split at e
    · rename_i h
      exact .inl ⟨h, by rw [List.getElem?_append_left h]; exact e⟩
    · refine .inr ?_
      rename_i hn
      rw [List.getElem?_singleton] at e
      split at e
      · cases e; exact ⟨by omega, rfl, rfl, rfl⟩
      · cases e
  have ow : ∀ x b, Ow σ τ (tmp ++ [(V.ref a, t', m)]) x b → Ow σ τ (tmp ++ [(V.ref a, t, m)]) x b := fun x b h => by
    cases x with
    | inl j => exact h
    | inr j =>
      obtain ⟨u, m', e, hm'⟩ := h
      rcases hj j _ u m' e with ⟨_, q⟩ | ⟨rfl, q, _, _⟩
      · exact ⟨u, m', q, hm'⟩
      · cases q; exact own
  have ok : ∀ {u m' v}, (m' ≠ .sh → ∀ b, v = .ref b → b ≠ a) → OK K Hs H u m' v → OK K Hs (upd H a o) u m' v := fun {u m' v} hx k => by
    by_cases h : m' = .sh
    · subst h; exact k
    · obtain ⟨b, p, eb, h1, h2, c'⟩ := (OK.own h).mp k
      exact (OK.own h).mpr ⟨b, p, eb, h1, by rw [upd_ne (hx h b eb)]; exact h2, c'⟩
  refine ⟨fun b u q => ?_, I.len, fun j u m' q => ?_, fun j v' u m' q => ?_, fun x y b h1 h2 => I.un x y b (ow x b h1) (ow y b h2), fun b u q ha => ?_, I.fs, fun x b h => I.fo x b (ow x b h), I.l0, I.pn, I.pq, fun j v' u q => ?_⟩
  · rw [upd_ne (fun z => by subst z; rw [hs] at q; cases q)]; exact I.le _ _ q
  · obtain ⟨w, e1, k⟩ := I.sl j u m' q
    refine ⟨w, e1, ok (fun h b eb z => ?_) k⟩
    subst z; subst eb
    have := I.un _ _ b own (show Ow σ τ _ (.inl j) b from ⟨e1, u, m', q, h⟩)
    cases this
  · rcases hj j v' u m' q with ⟨hl, q⟩ | ⟨rfl, rfl, rfl, rfl⟩
    · refine ok (fun h b eb z => ?_) (I.tm j v' u m' q)
      subst z; subst eb
      have := I.un _ _ b own (show Ow σ τ (tmp ++ [(V.ref b, t, m)]) (.inr j) b from ⟨u, m', q, h⟩)
      cases this
      omega
    · exact (OK.own hm).mpr ⟨a, o, rfl, hs, upd_same, c⟩
  · rw [upd_ne (fun z => ?_)]
    · exact I.fr b u q ha
    · subst z
      exact ha (I.fo _ _ own u q)
  · rcases hj j v' u .pn q with ⟨_, q⟩ | ⟨rfl, rfl, rfl, hh⟩
    · exact I.tp j v' u q
    · subst hh
      exact I.tp _ _ _ top
end

theorem CellO.mkL {K : PySem.W.Frag} {Hs : Hp} {ts : List T} {vs : List V} (r : RL K Hs ts vs) : CellO K Hs (.lst ts) (.lst vs) := ⟨vs, rfl, r⟩
/-! ### methods of lists and dicts that one owns -/
/-- the slot holds a list that one owns -/
@[simp] def own (τ : PSt) (k : Nat) (P : T → Md → Prop) : Prop := match τ[k]? with
  | some (some (c, m)) => m ≠ .sh ∧ P c m
  | _ => False
theorem own.get {τ : PSt} {k : Nat} {P : T → Md → Prop} (h : own τ k P) : ∃ c m, τ[k]? = some (some (c, m)) ∧ m ≠ .sh ∧ P c m := by
  unfold own at h
  split at h
  · exact ⟨_, _, by assumption, h.1, h.2⟩
  · exact h.elim
@[simp] def isLst : T → Bool
  | .lst _ => true
  | _ => false
@[simp] def isDic : T → Bool
  | .dic _ _ => true
  | .dit _ _ => true
  | _ => false
@[simp] def wApp (k : Nat) (w : WV) (τ : PSt) (Q : T → Md → PSt → Prop) : Prop := own τ k (fun c _ => isLst c = true) ∧ w τ fun t τ1 => own τ1 k fun c m => match c with
  | .lst ts => ts.length < sizeLine ∧ Q .non .sh (τ1.set k (some (.lst (ts ++ [t]), m)))
  | _ => False
@[simp] def wPop (k : Nat) (τ : PSt) (Q : T → Md → PSt → Prop) : Prop := own τ k fun c m => match c with
  | .lst ts => ∃ t, ts[ts.length - 1]? = some t ∧ Q t .sh (τ.set k (some (.lst ts.dropLast, m)))
  | _ => False
section
variable {X : Cx} {x : Str} {k : Nat} {p apos cpos : Pos} {e : Expr}
theorem RL.dropLast {K : PySem.W.Frag} {H : Hp} {ts : List T} {vs : List V} (r : RL K H ts vs) : RL K H ts.dropLast vs.dropLast := by
  rw [List.dropLast_eq_take, List.dropLast_eq_take, r.length]
  exact r.take _
theorem isLst_eq {c : T} (h : isLst c = true) : ∃ ts, c = .lst ts := by
  cases c <;> first | exact ⟨_, rfl⟩ | (simp [isLst] at h)
theorem ty_list {K : PySem.W.Frag} {H : Hp} {a : Addr} {xs : List V} (h : H a = some (.lst xs)) : tyV K "list" (.ref a) H := .inl ⟨rfl, xs, SqL.of h⟩
theorem le_app {w : WV} (hN : X.N[k]? = some x) (hv : Vis X.env.scope x) (he : LV X e w) (hd : (x == ("__debug__" : Str)) = false := by decide) (hcd : (x == ("__classdict__" : Str)) = false := by decide)
    (hbase : attributeBase (.Name x p) "append" X.env (eval (.Name x p) X.env) = eval (.Name x p) X.env := by rfl)
    (hfew : ((backTo cpos (starEach [e] X.env)).all (fun x => !x.1) && (backToKw cpos (keywordEach [] X.env)).all (fun x => x.1.isSome)
      && decide ([e].length + ([] : List Keyword).length + (if ([] : List Keyword).isEmpty then 0 else 1) < 30)) = true := by rfl)
    (hline : (apos.endLine == cpos.line) = true := by rfl) (hs : starEach [e] X.env = (false, eval e X.env) :: starEach [] X.env := by rfl) :
    LE X (.Call (.Attribute (.Name x p) "append" apos) [e] [] cpos) (wApp k w) :=
  PE.imp (pe_bm F.plainAttrs_list F.slot_list_append F.type_list_append mt_append (pe_var hN hv hd hcd) (pa_cons he pa_nil hs) hbase hfew hline hs rfl) fun σ H Q hw => by
    obtain ⟨E, Hs, τ, tmp, PQ, I, ⟨h0, hw⟩, hq⟩ := hw
    obtain ⟨c0, m0, e0, hm0, hc0⟩ := h0.get
    obtain ⟨ts0, rfl⟩ := isLst_eq hc0
    obtain ⟨v0, ev0, k0⟩ := I.sl k _ _ e0
    obtain ⟨a, o, rfl, h1, h2, hc⟩ := (OK.own hm0).mp k0
    obtain ⟨vs, rfl, rl⟩ := hc
    refine ⟨_, ev0, ty_list h2, E, Hs, τ, tmp, _, I, hw, fun Hs1 H1 τ1 t v I1 p1 => ?_⟩
    obtain ⟨c, m, e1, hm, p1⟩ := p1.get
    cases c <;> first | exact p1.elim | skip
    have r := top1 I1
    have I0 := I1.pop
    obtain ⟨v1, ev1, k1⟩ := I0.sl k _ _ e1
    rw [ev0] at ev1; cases ev1
    obtain ⟨b, o, eb, g1, g2, hc⟩ := (OK.own hm).mp k1
    cases eb
    obtain ⟨ws, rfl, rw'⟩ := hc
    refine ⟨a, ws, v, rfl, rfl, g2, by rw [rw'.length]; exact p1.1, ?_⟩
    exact hq _ _ _ _ _ _ ((I0.write e1 ev0 hm (CellO.mkL (rw'.append (RL.one r)))).pushN) p1.2
theorem le_pop (hN : X.N[k]? = some x) (hv : Vis X.env.scope x) (hd : (x == ("__debug__" : Str)) = false := by decide) (hcd : (x == ("__classdict__" : Str)) = false := by decide)
    (hbase : attributeBase (.Name x p) "pop" X.env (eval (.Name x p) X.env) = eval (.Name x p) X.env := by rfl) (hline : (apos.endLine == cpos.line) = true := by rfl) :
    LE X (.Call (.Attribute (.Name x p) "pop" apos) [] [] cpos) (wPop k) :=
  PE.imp (pe_bm0 F.plainAttrs_list F.slot_list_pop F.type_list_pop mt_pop (pe_var hN hv hd hcd) hbase hline) fun σ H Q hw => by
    obtain ⟨E, Hs, τ, tmp, PQ, I, h0, hq⟩ := hw
    obtain ⟨c0, m0, e0, hm0, p1⟩ := h0.get
    cases c0 <;> first | exact p1.elim | skip
    obtain ⟨t, et, p1⟩ := p1
    obtain ⟨v0, ev0, k0⟩ := I.sl k _ _ e0
    obtain ⟨a, o, rfl, h1, h2, hc⟩ := (OK.own hm0).mp k0
    obtain ⟨vs, rfl, rl⟩ := hc
    obtain ⟨y, ey, ry⟩ := rl.get et
    refine ⟨_, ev0, ty_list h2, a, vs, y, rfl, rfl, h2, by rw [rl.length]; exact ey, ?_⟩
    exact hq _ _ _ _ _ _ ((I.write e0 ev0 hm0 (CellO.mkL rl.dropLast)).push ry) p1
/-! ### name op= e -/
@[simp] def wAug (i : Nat) (w : WE) (op : WOp) (P : PEnds) (τ : PSt) : Prop := look τ i (fun _ => True) ∧ w τ fun t' _ τ1 => look τ1 i fun t => op [t, t'] fun r m' => setOk τ1 i ∧ P.nx (τ1.set i (some (r, m')))
theorem ls_aug {i : Nat} {pos' pos : Pos} {op : Operator} {r : R2} {w : WE} {wo : WOp} (s : OpS X.K wo (r2l r)) (ho : OpR X (inplaceOp op) r) (hN : X.N.Nodup) (hi : X.N[i]? = some x) (hx : Loc X.env.scope x) (he : LE X e w)
    (hf : X.fn x = true ∨ X.env.scope.names.lookup x = some .local := by first | exact .inl rfl | exact .inr rfl | assumption) : LS X (.AugAssign (.Name x pos') op e pos) (wAug i w wo) :=
  (ps_aug hN hi hx he ho hf).imp fun D σ H hw => by
    obtain ⟨E, Hs, τ, tmp, P, I, ⟨h0, hw⟩, q⟩ := hw
    unfold look at h0
    split at h0
    · rename_i t0 m0 e0
      obtain ⟨v0, ev0, k0⟩ := I.sl i _ _ e0
      refine ⟨v0, ev0, E, Hs, τ, tmp, _, I, hw, fun Hs1 H1 τ1 t' m' v I1 p1 => ?_⟩
      unfold look at p1
      split at p1
      · rename_i t m e1
        have I0 := I1.pop
        obtain ⟨v1, ev1, k1⟩ := I0.sl i _ _ e1
        rw [ev0] at ev1; cases ev1
        refine s (ts := [t, t']) (vs := [v0, v]) I0 ⟨_, _, rfl, k1.vw, _, _, rfl, (top1 I1).vw, rfl⟩ p1 fun Hs2 H2 u m2 z I2 p2 => ?_
        exact q.nx Hs2 H2 _ _ (I2.store p2.1.lt p2.1.np) p2.2
      · exact p1.elim
    · exact h0.elim
end

/-! ### iterables -/
abbrev WI := PSt → (List T → PSt → Prop) → Prop
def ItOk (K : PySem.W.Frag) (J : It) (ts : List T) (E : Ent) (tmp : Tmp) : Prop := ∀ more Hs H σ τ, INV K E Hs H σ τ (tmp ++ more) →
  (∀ i t, ts[i]? = some t → J.go i H ∧ ∀ x H', J.yld i H x H' → ∃ Hs', INV K E Hs' H' σ τ (tmp ++ more ++ [(x, t, .sh)])) ∧ J.stop ts.length H
theorem app_get {tmp more : Tmp} {j : Nat} {x : V × T × Md} (h : tmp[j]? = some x) : (tmp ++ more)[j]? = some x := by
  rw [List.getElem?_append_left (List.getElem?_eq_some_iff.mp h).1]; exact h
def tI (K : PySem.W.Frag) (wi : WI) : TI := fun σ H R => ∃ E Hs τ tmp P, INV K E Hs H σ τ tmp ∧ wi τ P ∧
  ∀ Hs' H' τ' tmp' ts J, INV K E Hs' H' σ τ' (tmp ++ tmp') → ItOk K J ts E (tmp ++ tmp') → P ts τ' → R J H'
abbrev LI (X : Cx) (tg iter : Expr) (wi : WI) : Prop := PI X tg iter (tI X.K wi)
theorem _root_.L2.PI.imp {X : Cx} {tg e : Expr} {t t' : TI} (h : PI X tg e t') (i : ∀ σ H Q, t σ H Q → t' σ H Q) : PI X tg e t := ⟨fun pins s σ H Q I hw => h.run pins s σ H Q I (i σ H Q hw)⟩
/-- a list or a tuple -/
def iSeq (K : PySem.W.Frag) (tl : TE) : TI := fun σ H R => tl σ H fun x H1 => ∃ a, x = .ref a ∧ (((∃ xs, SqL K H1 a xs) ∧ R (Itl K a) H1) ∨ ((∃ xs, SqT K H1 a xs) ∧ R (Itt K a) H1))
theorem pi_seq {X : Cx} {tg l : Expr} {tl : TE} (hl : PE X l tl) : PI X tg l (iSeq X.K tl) := by
  refine ⟨fun pins s σ H R I h => ?_⟩
  refine thn (hl.run pins s σ H _ I h) fun v s1 ⟨x, H1, I1, r1, q1⟩ => ?_
  obtain ⟨a, e, q⟩ := q1
  subst e
  cases r1
  rcases q with ⟨⟨xs, hq⟩, q⟩ | ⟨⟨xs, hq⟩, q⟩
  · obtain ⟨its, rv, p, hz⟩ := I1.list hq
    refine wpAny_pyIter_list p.isList ?_
    refine ⟨s1.heap.objs.size, [s1.heap.objs.size], _, _, H1, rfl, I1.kept (t' := s1.toks) fun b o e => Heap.get?_push_of_some _ e, turn_list a _, ⟨_, Heap.get?_push_size _ rfl, rfl, rfl⟩, fun b hb => ?_, q⟩
    have e : b = s1.heap.objs.size := by simpa using hb
    subst e
    exact I1.fpOk (Nat.le_refl _) (I1.hok.fresh (Nat.le_refl _))
  · obtain ⟨its, rv, p, hz⟩ := I1.tuple hq
    refine wpAny_pyIter_tuple (show s1.heap.IsTuple a its.toArray from p) ?_
    refine ⟨s1.heap.objs.size, [s1.heap.objs.size], _, _, H1, rfl, I1.kept (t' := s1.toks) fun b o e => Heap.get?_push_of_some _ e, turn_tuple a _, ⟨_, Heap.get?_push_size _ rfl, rfl, rfl⟩, fun b hb => ?_, q⟩
    have e : b = s1.heap.objs.size := by simpa using hb
    subst e
    exact I1.fpOk (Nat.le_refl _) (I1.hok.fresh (Nat.le_refl _))

section
variable {K : PySem.W.Frag} {E : Ent} {Hs H : Hp} {t : T} {ts us : List T} {v : V} {vs : List V} {tmp : Tmp} {a b : Addr}
/-- a shared list; a shared tuple -/
def ShL (K : PySem.W.Frag) (Hs : Hp) (a : Addr) (ts : List T) : Prop := ∃ vs, SqL K Hs a vs ∧ RL K Hs ts vs
def ShT (K : PySem.W.Frag) (Hs : Hp) (a : Addr) (ts : List T) : Prop := ∃ vs, SqT K Hs a vs ∧ RL K Hs ts vs
/-- a sequence's tree: a list's, a tuple's -/
@[simp] def isL : T → Bool
  | .lst _ => true
  | .frl _ => true
  | _ => false
theorem R.seqL (h : R K Hs t v) (e : seqT t = some ts) (f : isL t = true) : ∃ a, v = .ref a ∧ ShL K Hs a ts := by
  cases t <;> simp only [isL, seqT, Option.some.injEq, reduceCtorEq, Bool.false_eq_true] at e f
  · subst e
    simp only [R] at h
    obtain ⟨a, vs, rfl, h1, h2⟩ := h
    exact ⟨a, rfl, vs, SqL.of h1, h2⟩
  · subst e
    simp only [R] at h
    obtain ⟨a, vs, rfl, h1, h2⟩ := h
    exact ⟨a, rfl, vs, h1, h2⟩
theorem R.seqT (h : R K Hs t v) (e : Z.seqT t = some ts) (f : isL t = false) : ∃ a, v = .ref a ∧ ShT K Hs a ts := by
  cases t <;> simp only [isL, Z.seqT, Option.some.injEq, reduceCtorEq] at e f
  · subst e
    simp only [R] at h
    obtain ⟨a, vs, rfl, h1, h2⟩ := h
    exact ⟨a, rfl, vs, SqT.of h1, h2⟩
  · subst e
    simp only [R] at h
    obtain ⟨a, vs, rfl, h1, h2⟩ := h
    exact ⟨a, rfl, vs, SqT.mono (fun _ _ z => by cases z) h1, h2⟩
theorem ItOk.list {j : Nat} (hj : tmp[j]? = some (.ref a, t, .sh)) (e : Z.seqT t = some ts) (f : isL t = true) : ItOk K (Itl K a) ts E tmp := fun more Hs H σ τ I => by
  have r : R K Hs t (.ref a) := I.tm _ _ _ _ (app_get hj)
  obtain ⟨b, eb, vs, h1, h2⟩ := r.seqL e f
  cases eb
  have g := SqL.mono I.le h1
  refine ⟨fun i u hu => ?_, vs, g, by rw [h2.length]; exact Nat.le_refl _⟩
  obtain ⟨w, ew, rw'⟩ := h2.get hu
  refine ⟨⟨vs, w, g, ew⟩, fun x H' y => ?_⟩
  obtain ⟨rfl, y⟩ := y
  have := y vs g
  rw [ew] at this; cases this
  exact ⟨Hs, I.push rw'⟩
theorem ItOk.tup {j : Nat} (hj : tmp[j]? = some (.ref a, t, .sh)) (e : Z.seqT t = some ts) (f : isL t = false) : ItOk K (Itt K a) ts E tmp := fun more Hs H σ τ I => by
  have r : R K Hs t (.ref a) := I.tm _ _ _ _ (app_get hj)
  obtain ⟨b, eb, vs, h1, h2⟩ := r.seqT e f
  cases eb
  have g := SqT.mono I.le h1
  refine ⟨fun i u hu => ?_, vs, g, by rw [h2.length]; exact Nat.le_refl _⟩
  obtain ⟨w, ew, rw'⟩ := h2.get hu
  refine ⟨⟨vs, w, g, ew⟩, fun x H' y => ?_⟩
  obtain ⟨rfl, y⟩ := y
  have := y vs g
  rw [ew] at this; cases this
  exact ⟨Hs, I.push rw'⟩
theorem ItOk.range {lo : Int} {n : Nat} : ItOk K (Itr lo n) ((List.range n).map fun i => T.int (lo + (i : Nat))) E tmp := fun more Hs H σ τ I => by
  refine ⟨fun i u hu => ?_, by show n ≤ _; simp⟩
  rw [List.getElem?_map] at hu
  have hi : i < n := by
    cases q : (List.range n)[i]? with
    | none => rw [q] at hu; cases hu
    | some z => exact by simpa using (List.getElem?_eq_some_iff.mp q).1
  rw [List.getElem?_range hi] at hu
  cases hu
  refine ⟨hi, fun x H' y => ?_⟩
  obtain ⟨e1, e2⟩ := y
  subst e1 e2
  exact ⟨Hs, I.pushI⟩
/-- i, x for x in a list -/
def enumTs (ts : List T) : List T := (ts.zipIdx).map fun p => .tup [.int (p.2 : Nat), p.1]
theorem enumTs_get {i : Nat} {u : T} (h : (enumTs ts)[i]? = some u) : ∃ x, ts[i]? = some x ∧ u = .tup [.int (i : Nat), x] := by
  unfold enumTs at h
  rw [List.getElem?_map, List.getElem?_zipIdx] at h
  cases q : ts[i]? with
  | none => rw [q] at h; cases h
  | some z => rw [q] at h; cases h; exact ⟨z, rfl, by simp⟩
theorem enumTs_length : (enumTs ts).length = ts.length := by simp [enumTs]
theorem ItOk.enum {j : Nat} (hj : tmp[j]? = some (.ref a, t, .sh)) (e : Z.seqT t = some ts) (f : isL t = true) : ItOk K (Ite K a) (enumTs ts) E tmp := fun more Hs H σ τ I => by
  have r : R K Hs t (.ref a) := I.tm _ _ _ _ (app_get hj)
  obtain ⟨b, eb, vs, h1, h2⟩ := r.seqL e f
  cases eb
  have g := SqL.mono I.le h1
  refine ⟨fun i u hu => ?_, vs, g, by rw [h2.length, enumTs_length]; exact Nat.le_refl _⟩
  obtain ⟨z, hz, rfl⟩ := enumTs_get hu
  obtain ⟨w, ew, rw'⟩ := h2.get hz
  refine ⟨⟨vs, w, g, ew⟩, fun x H' y => ?_⟩
  obtain ⟨p, x', rfl, hp, rfl, y⟩ := y
  have := y vs g
  rw [ew] at this; cases this
  exact ⟨_, I.tupNew hp (RL.cons.mpr ⟨_, _, rfl, R.int.mpr rfl, RL.one rw'⟩)⟩
/-- pairs of two sequences -/
def zipTs (ts us : List T) : List T := (ts.zip us).map fun p => .tup [p.1, p.2]
theorem zipTs_get {i : Nat} {u : T} (h : (zipTs ts us)[i]? = some u) : ∃ x y, ts[i]? = some x ∧ us[i]? = some y ∧ u = .tup [x, y] := by
  unfold zipTs at h
  rw [List.getElem?_map] at h
  cases q : (ts.zip us)[i]? with
  | none => rw [q] at h; cases h
  | some z =>
    rw [q] at h; cases h
    obtain ⟨h1, h2⟩ := List.getElem?_zip_eq_some.mp q
    exact ⟨_, _, h1, h2, rfl⟩
theorem zipTs_length : (zipTs ts us).length = min ts.length us.length := by simp [zipTs]
theorem ItOk.zip {u : T} {i j : Nat} (hi : tmp[i]? = some (.ref a, t, .sh)) (hj : tmp[j]? = some (.ref b, u, .sh)) (e : Z.seqT t = some ts) (f : isL t = true) (e' : Z.seqT u = some us) (f' : isL u = true) : ItOk K (Itz K a b) (zipTs ts us) E tmp := fun more Hs H σ τ I => by
  have r : R K Hs t (.ref a) := I.tm _ _ _ _ (app_get hi)
  have r' : R K Hs u (.ref b) := I.tm _ _ _ _ (app_get hj)
  obtain ⟨c, ec, vs, h1, h2⟩ := r.seqL e f
  cases ec
  obtain ⟨c, ec, ws, h3, h4⟩ := r'.seqL e' f'
  cases ec
  have g := SqL.mono I.le h1
  have g' := SqL.mono I.le h3
  refine ⟨fun i z hz => ?_, vs, ws, g, g', ?_⟩
  · obtain ⟨x, y, hx, hy, rfl⟩ := zipTs_get hz
    obtain ⟨v, ev, rv⟩ := h2.get hx
    obtain ⟨w, ew, rw'⟩ := h4.get hy
    refine ⟨⟨vs, ws, v, w, g, g', ev, ew⟩, fun p H' y => ?_⟩
    obtain ⟨q, x', y', rfl, hp, rfl, y1, y2⟩ := y
    have z1 := y1 vs g
    have z2 := y2 ws g'
    rw [ev] at z1; cases z1
    rw [ew] at z2; cases z2
    exact ⟨_, I.tupNew hp (RL.cons.mpr ⟨_, _, rfl, rv, RL.one rw'⟩)⟩
  · rw [zipTs_length, h2.length, h4.length]; omega
theorem ItOk.zipT {u : T} {i j : Nat} (hi : tmp[i]? = some (.ref a, t, .sh)) (hj : tmp[j]? = some (.ref b, u, .sh)) (e : Z.seqT t = some ts) (f : isL t = false) (e' : Z.seqT u = some us) (f' : isL u = false) : ItOk K (RZ.ItzT K a b) (zipTs ts us) E tmp := fun more Hs H σ τ I => by
  have r : R K Hs t (.ref a) := I.tm _ _ _ _ (app_get hi)
  have r' : R K Hs u (.ref b) := I.tm _ _ _ _ (app_get hj)
  obtain ⟨c, ec, vs, h1, h2⟩ := r.seqT e f
  cases ec
  obtain ⟨c, ec, ws, h3, h4⟩ := r'.seqT e' f'
  cases ec
  have g := SqT.mono I.le h1
  have g' := SqT.mono I.le h3
  refine ⟨fun i z hz => ?_, vs, ws, g, g', ?_⟩
  · obtain ⟨x, y, hx, hy, rfl⟩ := zipTs_get hz
    obtain ⟨v, ev, rv⟩ := h2.get hx
    obtain ⟨w, ew, rw'⟩ := h4.get hy
    refine ⟨⟨vs, ws, v, w, g, g', ev, ew⟩, fun p H' y => ?_⟩
    obtain ⟨q, x', y', rfl, hp, rfl, y1, y2⟩ := y
    have z1 := y1 vs g
    have z2 := y2 ws g'
    rw [ev] at z1; cases z1
    rw [ew] at z2; cases z2
    exact ⟨_, I.tupNew hp (RL.cons.mpr ⟨_, _, rfl, rv, RL.one rw'⟩)⟩
  · rw [zipTs_length, h2.length, h4.length]; omega
end
/-! ### enumerate(tuple) -/
def IteT (K : PySem.W.Frag) (a : Addr) : It :=
  ⟨fun i H => ∃ (xs : List V) (x : V), SqT K H a xs ∧ xs[i]? = some x, fun i H v H' => ∃ T x, v = .ref T ∧ H T = none ∧ H' = upd H T (.tup [.int (i : Nat), x]) ∧ ∀ xs, SqT K H a xs → xs[i]? = some x, fun i H => ∃ xs : List V, SqT K H a xs ∧ xs.length = i⟩
theorem meets_enumerate_newT (l : Addr) (items : Array Value) (n : Nat) (dct : Option Addr) (sl : Array (Option Value)) :
    Meets (Builtin.«enumerate.__new__» ⟨[.type "enumerate", .ref l], []⟩) (fun _ R s => s.heap.get? l = some { cls := .type "tuple", dict := dct, data := .seq items n, slots := sl } ∧
      R (.ok (.ret (.ref (s.heap.push { cls := .type "tuple_iterator", data := .fields #[.ref l, .int 0 0] }).objs.size)))
        { s with heap := (s.heap.push { cls := .type "tuple_iterator", data := .fields #[.ref l, .int 0 0] }).push { cls := .type "enumerate", data := .fields #[.none, .bool false, .ref s.heap.objs.size, rawInt 0, .none, .none] } }) :=
  .of_wp fun prog w A R s h => by
    obtain ⟨hp, g, d, tk, os⟩ := s; obtain ⟨hl, h⟩ := h
    have hsub := sub_enumerate
    have hL : Heap.IsTuple (Shared.heap ⟨hp, g, d, tk, os⟩) l items := ⟨_, hl, rfl, n, rfl⟩
    wp_walk using AutoSeq1.wpAny_loadPart' hl
    refine wpAny_stack_any fun st => wpAny_pure ?_
    split
    · rename_i c _ _ _ _ _
      cases (c == Value.type "enumerate")
      · wp_walk using AutoSeq1.wpAny_loadPart' hl, wpAny_pyIter_tuple hL
        exact ⟨_, rfl, h⟩
      · wp_walk using AutoSeq1.wpAny_loadPart' hl, wpAny_pyIter_tuple hL
        exact ⟨_, rfl, h⟩
    · wp_walk using AutoSeq1.wpAny_loadPart' hl, wpAny_pyIter_tuple hL
      exact ⟨_, rfl, h⟩
theorem call_enumerate_tuple {prog : Program} {w : World} {A : Around} {E : Value → Shared → Prop} {s : Shared} {l : Addr} {items : Array Value} {Q : Value → Shared → Prop} (hL : s.heap.IsTuple l items)
    (h : ∀ h', IsEnum h' (s.heap.objs.size + 1) s.heap.objs.size 0 .none → h'.IsTupleIter s.heap.objs.size l 0 → h'.objs.size = s.heap.objs.size + 2 →
      (∀ b o, s.heap.get? b = some o → h'.get? b = some o) → Q (.ref (s.heap.objs.size + 1)) { s with heap := h' }) :
    wpAny (model prog w) A (call (.type "enumerate") [.ref l]) Q E s := by
  obtain ⟨⟨c, dct, dt, sl⟩, hl, hc, n, hd⟩ := hL
  replace hc : c = .type "tuple" := hc
  replace hd : dt = .seq items n := hd
  subst hc hd
  refine callType_new F.called_enumerate (by decide) (F.typeCall_enumerate_1 _) (F.newCall_enumerate_1 _) (fun obj => F.args_object_init_2 obj _) F.entry_enumerate_new
    (meets_enumerate_newT l items n dct sl) ⟨hl, ?_⟩
  have hz : (s.heap.push { cls := .type "tuple_iterator", data := .fields #[.ref l, .int 0 0] }).objs.size = s.heap.objs.size + 1 := Heap.size_push ..
  show _ ∧ _
  rw [hz]
  have he : IsEnum ((s.heap.push { cls := .type "tuple_iterator", data := .fields #[.ref l, .int 0 0] }).push
      { cls := .type "enumerate", data := .fields #[.none, .bool false, .ref s.heap.objs.size, rawInt 0, .none, .none] }) (s.heap.objs.size + 1) s.heap.objs.size 0 .none := by
    have := Heap.get?_push_size (s.heap.push { cls := .type "tuple_iterator", data := .fields #[.ref l, .int 0 0] })
      (o := { cls := .type "enumerate", data := .fields #[.none, .bool false, .ref s.heap.objs.size, rawInt 0, .none, .none] }) rfl
    rw [hz] at this; exact this
  refine ⟨⟨_, he, rfl⟩, h _ he ⟨_, Heap.get?_push_of_some _ (Heap.get?_push_size _ rfl), rfl, rfl⟩ (by rw [Heap.size_push, hz]) fun b o x => Heap.get?_push_of_some _ (Heap.get?_push_of_some _ x)⟩
theorem turn_enumT {P : Program} {w : World} {K : PySem.W.Frag} {elts : List Expr} {kk : Nat} {tpos : Pos} (a e it : Addr) :
    Turn P w K (.Tuple elts kk tpos) (IteT K a) [e, it] e (fun i h => (∃ old, IsEnum h e it ((i : Nat) : Int) old) ∧ h.IsTupleIter it a i ∧ e ≠ it ∧ a ≠ it ∧ a ≠ e) where
  mem := by simp
  obj := fun i h st b hb => by
    obtain ⟨⟨old, he⟩, ⟨o, ho, hc, hd⟩, _⟩ := st
    have e' : b = e ∨ b = it := by simpa using hb
    rcases e' with z | z
    · rw [z]; exact ⟨_, he, fun v q => nomatch q⟩
    · rw [z]; exact ⟨o, ho, fun v q => by rw [hd] at q; cases q⟩
  keep := fun i h h' st k => let ⟨⟨old, he⟩, hi, hne⟩ := st; ⟨⟨old, k e (by simp) _ he⟩, hi.at fun o q => k it (by simp) o q, hne⟩
  item := by
    intro X hP hw hK hc i pins s σ H E I hf st hg
    subst hP hw hK
    obtain ⟨⟨old, he⟩, hit, hne, hai, hae⟩ := st
    obtain ⟨xs, x, hq, hx⟩ := hg
    obtain ⟨its, rv, p, hz⟩ := I.tuple hq
    have hT : s.heap.IsTuple a its.toArray := p
    obtain ⟨u, hu, ru⟩ := rv.get hx
    have hel : e < s.heap.objs.size := Heap.lt_size he
    have hil : it < s.heap.objs.size := by obtain ⟨_, q, _⟩ := hit; exact Heap.lt_size q
    have hlt : i < its.toArray.size := by
      have := (List.getElem?_eq_some_iff.mp hu).1
      simpa using this
    have D := Draws.tuple (prog := X.prog) (w := X.w) (A := X.A.in1) (I.ok.hd hc) it a hai its.toArray
    refine wpAny_pyNext_enum_itemD (A := X.A) D he ⟨hit, hT⟩ hlt hne (by simp [hne, Ne.symm hae]) fun u' h' tk hu' ho hst' hT' hsz hk => ?_
    obtain rfl : u = u' := by
      have e1 : its.toArray[i]? = some u := by simpa using hu
      rw [e1] at hu'; cases hu'; rfl
    refine ⟨_, rfl, wpAny_letOwnedTupleGo_enum (s := { s with heap := h', toks := tk + 1 }) ho fun h'' he' sb => ?_⟩
    have hT2 : h''.get? s.heap.objs.size = some { cls := .type "tuple", data := .seq #[.int i tk, u] } := (sb.2 _ (Nat.ne_of_gt hel)).trans hT'
    have new : ObjOk X.prog X.w (upd H s.heap.objs.size (.tup [.int (i : Nat), x])) h'' s.heap.objs.size (.tup [.int (i : Nat), x]) :=
      ⟨by show 2 ≤ sizeLine; decide, [.int i tk, u], .cons ⟨_, rfl⟩ (.cons ru .nil), ⟨_, hT2, rfl, _, rfl⟩⟩
    have I1 : Inv X pins σ (upd H s.heap.objs.size (.tup [.int (i : Nat), x])) { s with heap := h'', toks := tk + 1 } :=
      I.turnedNew (ch := [e, it]) (fun b ob hb q => (sb.2 b (fun z => hb (by simp [z]))).trans (hk b ob (fun z => hb (by simp [z])) (fun z => hb (by simp [z])) q)) hf (Nat.le_refl _) new
    refine ⟨.ref s.heap.objs.size, _, I1, rfl, ⟨_, x, rfl, I.hok.fresh (Nat.le_refl _), rfl, fun ys hy => by rw [I.tuple_inj hy hq]; exact hx⟩, ⟨⟨u, ?_⟩, hst'.1.at fun o q => (sb.2 it (Ne.symm hne)).trans q, hne, hai, hae⟩, fun b hb => ?_⟩
    · have e1 : ((i + 1 : Nat) : Int) = (i : Int) + 1 := by omega
      rw [e1]; exact he'
    · have hb' : b < s.heap.objs.size := by
        have e' : b = e ∨ b = it := by simpa using hb
        rcases e' with z | z
        · rw [z]; exact hel
        · rw [z]; exact hil
      rw [upd_ne (Nat.ne_of_lt hb')]
      exact (hf b hb).1
  done := by
    intro X hP hw hK hc i pins s σ H E I hf st hg
    subst hP hw hK
    obtain ⟨⟨old, he⟩, hit, hne, hai, hae⟩ := st
    obtain ⟨xs, hq, hx⟩ := hg
    obtain ⟨its, rv, p, hz⟩ := I.tuple hq
    obtain ⟨f0, f1, f2, f3, f4, f5⟩ := hf it (by simp)
    have hl := rv.length
    have hT : s.heap.IsTuple a its.toArray := p
    have D := Draws.tuple (prog := X.prog) (w := X.w) (A := X.A.in1) (I.ok.hd hc) it a hai its.toArray
    have hi : i = its.toArray.size := by simp; omega
    subst hi
    exact wpAny_pyNext_enum_endD (A := X.A) D he ⟨hit, hT⟩ fun h' eb => ⟨rfl, I.turned (t' := s.toks) (fun b o hb q => eb b o hb q) f0 f1 f3 f4 f5⟩
  self := fun A i s Q E st h => let ⟨⟨_, he⟩, _⟩ := st; wpAny_pyIter_enum he h
def iEnumA (K : PySem.W.Frag) (ta : TA) : TI := fun σ H R => ta σ H fun vs H1 => ∃ a xs, vs = [.ref a] ∧ ((SqL K H1 a xs ∧ R (Ite K a) H1) ∨ (SqT K H1 a xs ∧ R (IteT K a) H1))
theorem pi_enumA {X : Cx} {e : Expr} {ta : TA} {p pos tpos : Pos} {elts : List Expr} {kk : Nat} (hg : Gl X "enumerate") (hm : X.mg "enumerate" = none) (ha : PA X [e] ta) (hs : starEach [e] X.env = [(false, eval e X.env)] := by rfl) :
    PI X (.Tuple elts kk tpos) (.Call (.Name "enumerate" p) [e] [] pos) (iEnumA X.K ta) := by
  refine ⟨fun pins s σ H R I h => ?_⟩
  refine Call_ (ld_blt I hg hm boot_enumerate (PyProof.Rows.callWith_type1 (thn (ha.run pos pins s σ H _ I h) fun us s1 ⟨vs, H1, I1, r1, q1⟩ => ?_) hs rfl))
  obtain ⟨a, xs, ex, q⟩ := q1
  subst ex
  cases r1 with
  | cons r rr =>
    cases rr
    cases r
    have fp : ∀ b ∈ [s1.heap.objs.size + 1, s1.heap.objs.size], FpOk X pins H1 b := fun b hb => by
      have e' : b = s1.heap.objs.size + 1 ∨ b = s1.heap.objs.size := by simpa using hb
      have hle : s1.heap.objs.size ≤ b := by
        rcases e' with z | z
        · rw [z]; exact Nat.le_add_right _ _
        · rw [z]; exact Nat.le_refl _
      exact I1.fpOk hle (I1.hok.fresh hle)
    rcases q with ⟨hq, q⟩ | ⟨hq, q⟩
    · obtain ⟨its, rv, p', hz⟩ := I1.list hq
      refine call_enumerate_list p'.isList fun h' he hit hsz hk => wpAny_pyIter_enum he ?_
      have I2 : Inv X pins σ H1 { s1 with heap := h' } := I1.kept (t' := s1.toks) hk
      exact ⟨s1.heap.objs.size + 1, [s1.heap.objs.size + 1, s1.heap.objs.size], _, _, H1, rfl, I2, turn_enum a (s1.heap.objs.size + 1) s1.heap.objs.size, ⟨⟨.none, he⟩, hit, Nat.succ_ne_self _⟩, fp, q⟩
    · obtain ⟨its, rv, p', hz⟩ := I1.tuple hq
      have hT : s1.heap.IsTuple a its.toArray := p'
      have hal : a < s1.heap.objs.size := by obtain ⟨o, ho, _⟩ := hT; exact Heap.lt_size ho
      refine call_enumerate_tuple hT fun h' he hit hsz hk => wpAny_pyIter_enum he ?_
      have I2 : Inv X pins σ H1 { s1 with heap := h' } := I1.kept (t' := s1.toks) hk
      exact ⟨s1.heap.objs.size + 1, [s1.heap.objs.size + 1, s1.heap.objs.size], _, _, H1, rfl, I2, turn_enumT a (s1.heap.objs.size + 1) s1.heap.objs.size, ⟨⟨.none, he⟩, hit, Nat.succ_ne_self _, Nat.ne_of_lt hal, Nat.ne_of_lt (Nat.lt_succ_of_lt hal)⟩, fp, q⟩
section
variable {K : PySem.W.Frag} {E : Ent} {t : T} {ts : List T} {tmp : Tmp} {a : Addr}
theorem ItOk.enumT {j : Nat} (hj : tmp[j]? = some (.ref a, t, .sh)) (e : Z.seqT t = some ts) (f : isL t = false) : ItOk K (IteT K a) (enumTs ts) E tmp := fun more Hs H σ τ I => by
  have r : R K Hs t (.ref a) := I.tm _ _ _ _ (app_get hj)
  obtain ⟨b, eb, vs, h1, h2⟩ := r.seqT e f
  cases eb
  have g := SqT.mono I.le h1
  refine ⟨fun i u hu => ?_, vs, g, by rw [h2.length, enumTs_length]⟩
  obtain ⟨z, hz, rfl⟩ := enumTs_get hu
  obtain ⟨w, ew, rw'⟩ := h2.get hz
  refine ⟨⟨vs, w, g, ew⟩, fun x H' y => ?_⟩
  obtain ⟨p, x', rfl, hp, rfl, y⟩ := y
  have := y vs g
  rw [ew] at this; cases this
  exact ⟨_, I.tupNew hp (RL.cons.mpr ⟨_, _, rfl, R.int.mpr rfl, RL.one rw'⟩)⟩
end
/-! ### the iterables' rules -/
@[simp] def wiSeq (w : WV) (τ : PSt) (P : List T → PSt → Prop) : Prop := w τ fun t τ' => match seqT t with
  | some ts => P ts τ'
  | none => False
@[simp] def wiRng1 (w : WV) (τ : PSt) (P : List T → PSt → Prop) : Prop := w τ fun t τ' => match t with
  | .int j => -(2 ^ 62) ≤ j ∧ j < 2 ^ 62 ∧ P ((List.range j.toNat).map fun i => T.int ((0 : Int) + (i : Nat))) τ'
  | _ => False
@[simp] def wiRng2 (w w' : WV) (τ : PSt) (P : List T → PSt → Prop) : Prop := w τ fun t τ1 => w' τ1 fun t' τ2 => match t, t' with
  | .int i, .int j => (-(2 ^ 62) ≤ i ∧ i < 2 ^ 62 ∧ -(2 ^ 62) ≤ j ∧ j < 2 ^ 62) ∧ P ((List.range (j - i).toNat).map fun k => T.int (i + (k : Nat))) τ2
  | _, _ => False
@[simp] def wiEnum (w : WV) (τ : PSt) (P : List T → PSt → Prop) : Prop := w τ fun t τ' => match seqT t with
  | some ts => P (enumTs ts) τ'
  | none => False
@[simp] def wiZip (w w' : WV) (τ : PSt) (P : List T → PSt → Prop) : Prop := w τ fun t τ1 => w' τ1 fun t' τ2 => match seqT t, seqT t' with
  | some ts, some us => isL t = isL t' ∧ P (zipTs ts us) τ2
  | _, _ => False
section
variable {X : Cx} {tg e e2 : Expr} {p pos tpos : Pos} {w w' : WV}
theorem li_seq (he : LV X e w) : LI X tg e (wiSeq w) := (pi_seq he).imp fun σ H Rx hw => by
  obtain ⟨E, Hs, τ, tmp, P, I, hw, q⟩ := hw
  refine ⟨E, Hs, τ, tmp, _, I, hw, fun Hs1 H1 τ1 t v I1 p1 => ?_⟩
  split at p1
  · rename_i ts es
    have r := top1 I1
    have et : (tmp ++ [(v, t, Md.sh)])[tmp.length]? = some (v, t, .sh) := by simp
    cases f : isL t with
    | true =>
      obtain ⟨a, rfl, vs, h1, h2⟩ := R.seqL (show R X.K Hs1 t v from r) es f
      exact ⟨a, rfl, .inl ⟨⟨vs, SqL.mono I1.le h1⟩, q Hs1 H1 τ1 _ ts _ I1 (ItOk.list et es f) p1⟩⟩
    | false =>
      obtain ⟨a, rfl, vs, h1, h2⟩ := R.seqT (show R X.K Hs1 t v from r) es f
      exact ⟨a, rfl, .inr ⟨⟨vs, SqT.mono I1.le h1⟩, q Hs1 H1 τ1 _ ts _ I1 (ItOk.tup et es f) p1⟩⟩
  · exact p1.elim
theorem li_rng1 (hg : Gl X "range") (hm : X.mg "range" = none) (he : LV X e w) (hs : starEach [e] X.env = [(false, eval e X.env)] := by rfl) : LI X tg (.Call (.Name "range" p) [e] [] pos) (wiRng1 w) :=
  (pi_range1 hg hm (pa_cons he pa_nil hs) hs).imp fun σ H Rx hw => by
    obtain ⟨E, Hs, τ, tmp, P, I, hw, q⟩ := hw
    refine ⟨E, Hs, τ, tmp, _, I, hw, fun Hs1 H1 τ1 t v I1 p1 => ?_⟩
    cases t <;> first | exact p1.elim | skip
    rename_i j
    have r := R.int.mp (show R X.K Hs1 (.int j) v from top1 I1)
    subst r
    exact ⟨j, rfl, p1.1, p1.2.1, q Hs1 H1 τ1 _ _ _ I1 ItOk.range p1.2.2⟩
theorem li_rng2 (hg : Gl X "range") (hm : X.mg "range" = none) (he : LV X e w) (he2 : LV X e2 w') (hs : starEach [e, e2] X.env = [(false, eval e X.env), (false, eval e2 X.env)] := by rfl) (hs2 : starEach [e2] X.env = [(false, eval e2 X.env)] := by rfl) : LI X tg (.Call (.Name "range" p) [e, e2] [] pos) (wiRng2 w w') :=
  (pi_range2 hg hm (pa_cons he (pa_cons he2 pa_nil hs2) (by rw [hs, hs2])) hs hs2).imp fun σ H Rx hw => by
    obtain ⟨E, Hs, τ, tmp, P, I, hw, q⟩ := hw
    refine ⟨E, Hs, τ, tmp, _, I, hw, fun Hs1 H1 τ1 t v I1 p1 => ?_⟩
    refine ⟨E, Hs1, τ1, _, _, I1, p1, fun Hs2 H2 τ2 t' v' I2 p2 => ?_⟩
    split at p2
    · rename_i i j
      have r' := R.int.mp (show R X.K Hs2 (.int j) v' from top1 I2)
      have r := R.int.mp (show R X.K Hs2 (.int i) v from top1 I2.pop)
      subst r r'
      exact ⟨i, j, rfl, p2.1, q Hs2 H2 τ2 _ _ _ (by rw [← List.append_assoc]; exact I2) ItOk.range p2.2⟩
    · exact p2.elim
theorem li_enum {elts : List Expr} {kk : Nat} (hg : Gl X "enumerate") (hm : X.mg "enumerate" = none) (he : LV X e w) (hs : starEach [e] X.env = [(false, eval e X.env)] := by rfl) : LI X (.Tuple elts kk tpos) (.Call (.Name "enumerate" p) [e] [] pos) (wiEnum w) :=
  (pi_enumA hg hm (pa_cons he pa_nil hs) hs).imp fun σ H Rx hw => by
    obtain ⟨E, Hs, τ, tmp, P, I, hw, q⟩ := hw
    refine ⟨E, Hs, τ, tmp, _, I, hw, fun Hs1 H1 τ1 t v I1 p1 => ?_⟩
    split at p1
    · rename_i ts es
      have r := top1 I1
      have et : (tmp ++ [(v, t, Md.sh)])[tmp.length]? = some (v, t, .sh) := by simp
      cases f : isL t with
      | true =>
        obtain ⟨a, rfl, vs, h1, h2⟩ := R.seqL (show R X.K Hs1 t v from r) es f
        exact ⟨a, vs, rfl, .inl ⟨SqL.mono I1.le h1, q Hs1 H1 τ1 _ _ _ I1 (ItOk.enum et es f) p1⟩⟩
      | false =>
        obtain ⟨a, rfl, vs, h1, h2⟩ := R.seqT (show R X.K Hs1 t v from r) es f
        exact ⟨a, vs, rfl, .inr ⟨SqT.mono I1.le h1, q Hs1 H1 τ1 _ _ _ I1 (ItOk.enumT et es f) p1⟩⟩
    · exact p1.elim
theorem li_zip {elts : List Expr} {kk : Nat} (hg : Gl X "zip") (hm : X.mg "zip" = none) (he : LV X e w) (he2 : LV X e2 w') (hs : starEach [e, e2] X.env = (false, eval e X.env) :: starEach [e2] X.env := by rfl) (hs2 : starEach [e2] X.env = (false, eval e2 X.env) :: starEach [] X.env := by rfl) (hpl : (backTo pos (starEach [e2] X.env)).any (·.1) = false := by rfl) :
    LI X (.Tuple elts kk tpos) (.Call (.Name "zip" p) [e, e2] [] pos) (wiZip w w') :=
  (RZ.pi_zipA hg hm (pa_cons he (pa_cons he2 pa_nil hs2) hs) hs hpl).imp fun σ H Rx hw => by
    obtain ⟨E, Hs, τ, tmp, P, I, hw, q⟩ := hw
    refine ⟨E, Hs, τ, tmp, _, I, hw, fun Hs1 H1 τ1 t v I1 p1 => ?_⟩
    refine ⟨E, Hs1, τ1, _, _, I1, p1, fun Hs2 H2 τ2 t' v' I2 p2 => ?_⟩
    split at p2
    · rename_i ts us es eu
      obtain ⟨hf, p2⟩ := p2
      have r' := top1 I2
      have r := top1 I2.pop
      have e1 : (tmp ++ ([(v, t, Md.sh)] ++ [(v', t', Md.sh)]))[tmp.length]? = some (v, t, .sh) := by simp
      have e2 : (tmp ++ ([(v, t, Md.sh)] ++ [(v', t', Md.sh)]))[tmp.length + 1]? = some (v', t', .sh) := by simp
      have I3 := I2
      rw [List.append_assoc] at I3
      cases f : isL t with
      | true =>
        obtain ⟨a, rfl, vs, h1, h2⟩ := R.seqL (show R X.K Hs2 t v from r) es f
        obtain ⟨b, rfl, ws, h3, h4⟩ := R.seqL (show R X.K Hs2 t' v' from r') eu (hf ▸ f)
        exact ⟨a, b, vs, ws, rfl, .inl ⟨SqL.mono I2.le h1, SqL.mono I2.le h3, q Hs2 H2 τ2 _ _ _ I3 (ItOk.zip e1 e2 es f eu (hf ▸ f)) p2⟩⟩
      | false =>
        obtain ⟨a, rfl, vs, h1, h2⟩ := R.seqT (show R X.K Hs2 t v from r) es f
        obtain ⟨b, rfl, ws, h3, h4⟩ := R.seqT (show R X.K Hs2 t' v' from r') eu (hf ▸ f)
        exact ⟨a, b, vs, ws, rfl, .inr ⟨SqT.mono I2.le h1, SqT.mono I2.le h3, q Hs2 H2 τ2 _ _ _ I3 (ItOk.zipT e1 e2 es f eu (hf ▸ f)) p2⟩⟩
    · exact p2.elim
end
end Z

set_option Elab.async false
set_option linter.all false
set_option maxRecDepth 100000
set_option maxHeartbeats 1000000
/-! Z9: for, comprehensions. -/
namespace Z
open PySem PySem.Spec PyProof.Rows L2

theorem INV.mid {K : PySem.W.Frag} {E : Ent} {Hs H : Hp} {σ : L2.St} {τ : PSt} {tmp more last : Tmp} (I : INV K E Hs H σ τ (tmp ++ more ++ last)) : INV K E Hs H σ τ (tmp ++ last) := by
  have hj : ∀ (j : Nat) x, (tmp ++ last)[j]? = some x → (tmp ++ more ++ last)[if j < tmp.length then j else j + more.length]? = some x := fun j x e => by
    by_cases h : j < tmp.length
    · rw [if_pos h, List.append_assoc, List.getElem?_append_left h]
      rw [List.getElem?_append_left h] at e; exact e
    · rw [if_neg h, List.getElem?_append_right (by simp; omega)]
      rw [List.getElem?_append_right (by omega)] at e
      rw [← e]
      congr 1
      simp; omega
  refine I.str (fun x => match x with | .inl i => .inl i | .inr j => .inr (if j < tmp.length then j else j + more.length)) I.len I.sl (fun j v' t' m' e => I.tm _ v' t' m' (hj _ _ e)) (fun x b h => ?_) (fun x y b _ _ e => ?_) I.pn I.pq (fun j v' t' e => I.tp _ v' t' (hj _ _ e))
  · cases x with
    | inl i => exact h
    | inr j =>
      obtain ⟨t', m', e, hm⟩ := h
      exact ⟨t', m', hj _ _ e, hm⟩
  · cases x with
    | inl i =>
      cases y with
      | inl j => exact e
      | inr j => cases e
    | inr i =>
      cases y with
      | inl j => cases e
      | inr j =>
        have e := Sum.inr.inj e
        congr 1
        split at e <;> split at e <;> omega
/-! ### for -/
/-- Pv: what stands ahead of the i-th turn -/
def wFor (wi : WI) (g : WG) (b : WS) (P : PEnds) (τ : PSt) : Prop := wi τ fun ts τ1 => ∃ Pv : Nat → PSt → Prop, Pv 0 τ1 ∧
  (∀ i t τ, ts[i]? = some t → Pv i τ → g t τ fun τ2 => b { P with nx := Pv (i + 1), ct := Pv (i + 1), bk := P.nx } τ2) ∧ ∀ τ, Pv ts.length τ → P.nx τ
section
variable {X : Cx} {tg iter : Expr} {pos : Pos}
theorem ls_for {body : List Stmt} {wi : WI} {ks : List Nat} {g : WG} {b : WS} (hp : PassesOwn (model X.prog X.w) X.A X.env X.xe) (hc : X.calm = true) (hi : LI X tg iter wi) (hg : LG X tg ks g) (hb : LSs X body b)
    (hs : ∀ x, foldedSetIterable iter X.env x = pure x := by intro _; rfl) : LS X (.For tg iter body [] pos) (wFor wi g b) := (ps_for hp hc hi hg hb hs).imp fun D σ H hw => by
  obtain ⟨E, Hs, τ, tmp, P, I, hw, q⟩ := hw
  refine ⟨E, Hs, τ, tmp, _, I, hw, fun Hs1 H1 τ1 tmp1 ts J I1 ok p1 => ?_⟩
  obtain ⟨Pv, p0, step, fin⟩ := p1
  refine ⟨fun i m σ H => m = ts.length - i ∧ i ≤ ts.length ∧ ∃ Hs τ, INV X.K E Hs H σ τ (tmp ++ tmp1) ∧ Pv i τ, ⟨_, rfl, Nat.zero_le _, Hs1, τ1, I1, p0⟩, ?_⟩
  rintro i m σ2 H2 ⟨rfl, hle, Hs2, τ2, I2, p2⟩
  obtain ⟨go, stop⟩ := ok [] Hs2 H2 σ2 τ2 (by rw [List.append_nil]; exact I2)
  by_cases hlt : i < ts.length
  · have et : ts[i]? = some ts[i] := List.getElem?_eq_getElem hlt
    obtain ⟨g1, g2⟩ := go i _ et
    refine .inr ⟨g1, fun σ' H' => ∃ Hs τ, INV X.K E Hs H' σ' τ (tmp ++ tmp1) ∧ Pv (i + 1) τ, ?_, fun x H' y => ?_⟩
    · rintro σ' H' ⟨Hs', τ', I', p'⟩
      exact ⟨ts.length - (i + 1), by omega, rfl, hlt, Hs', τ', I', p'⟩
    · obtain ⟨Hs3, I3⟩ := g2 x H' y
      rw [List.append_nil] at I3
      refine ⟨E, Hs3, τ2, tmp ++ tmp1, _, _, I3.pop, top1 I3, step i _ τ2 et p2, fun Hs4 H4 σ4 τ4 I4 _ p4 => ?_⟩
      refine ⟨E, Hs4, τ4, tmp ++ tmp1, _, I4, p4, fun Hs' H' σ' τ' I' h => ⟨Hs', τ', I', h⟩, fun Hs' H' σ' τ' t m v I' h => ?_, fun Hs' H' σ' τ' I' h => q.nx Hs' H' σ' τ' I'.pop h, fun Hs' H' σ' τ' I' h => ⟨Hs', τ', I', h⟩⟩
      exact q.rt Hs' H' σ' τ' t m v I'.mid h
  · have e : i = ts.length := by omega
    subst e
    exact .inl ⟨stop, q.nx Hs2 H2 σ2 τ2 I2.pop (fin τ2 p2)⟩
end
/-! ### comprehensions -/
@[simp] def wipeP (τ : PSt) : List Nat → PSt
  | [] => τ
  | v :: vs => (wipeP τ vs).set v none
def npn (τ : PSt) (vs : List Nat) : Prop := ∀ v ∈ vs, ∀ t, τ[v]? ≠ some (some (t, .pn))
theorem wipeP_get {τ : PSt} {i : Nat} : ∀ {vs : List Nat}, (wipeP τ vs)[i]? = if i ∈ vs then (τ[i]?).map fun _ => none else τ[i]?
  | [] => by simp [wipeP]
  | v :: vs => by
    unfold wipeP
    by_cases h : v = i
    · subst h
      rw [List.getElem?_set_self']
      rw [wipeP_get (vs := vs)]
      simp
      by_cases h2 : v ∈ vs
      · simp [h2]; cases τ[v]? <;> rfl
      · simp [h2]; cases τ[v]? <;> rfl
    · rw [List.getElem?_set_ne h, wipeP_get (vs := vs)]
      have : i ≠ v := fun e => h e.symm
      simp [this]
theorem npn_wipe {τ : PSt} {vs : List Nat} : npn (wipeP τ vs) vs := fun x hx t e => by
  rw [wipeP_get] at e
  simp only [hx, if_true] at e
  cases q : τ[x]? with
  | none => rw [q] at e; cases e
  | some z => rw [q] at e; cases e
theorem INV.wipe {K : PySem.W.Frag} {E : Ent} {Hs H : Hp} {σ : L2.St} {τ : PSt} {tmp : Tmp} (I : INV K E Hs H σ τ tmp) : ∀ {vs : List Nat}, npn τ vs → INV K E Hs H (L2.wipe σ vs) (wipeP τ vs) tmp
  | [], _ => I
  | v :: vs, h => by
    have J := I.wipe (vs := vs) fun x hx => h x (List.mem_cons_of_mem _ hx)
    refine J.forget fun t e => ?_
    rw [wipeP_get] at e
    split at e
    · cases q : τ[v]? with
      | none => rw [q] at e; cases e
      | some z => rw [q] at e; cases e
    · exact h v (List.mem_cons_self ..) t e
/-- other slots' values where nothing is told -/
theorem INV.back {K : PySem.W.Frag} {E : Ent} {Hs H : Hp} {σ σ' : L2.St} {τ : PSt} {tmp : Tmp} {vs : List Nat} (I : INV K E Hs H σ (wipeP τ vs) tmp) (c : Chg vs σ σ') (hp : npn τ vs) : INV K E Hs H σ' (wipeP τ vs) tmp := by
  have hn : ∀ i x, (wipeP τ vs)[i]? = some (some x) → σ'[i]? = σ[i]? := fun i x e => by
    rw [wipeP_get] at e
    split at e
    · cases q : τ[i]? with
      | none => rw [q] at e; cases e
      | some z => rw [q] at e; cases e
    · rename_i h; exact c.2 i h
  refine I.str id (by rw [c.1]; exact I.len) (fun i t m e => by rw [hn i _ e]; exact I.sl i t m e) I.tm (fun x b h => ?_) (fun x y b _ _ e => e) (fun i b hb => ?_) I.pq I.tp
  · cases x with
    | inl i =>
      obtain ⟨e1, t, m, e2, hm⟩ := h
      rw [hn i _ e2] at e1
      exact ⟨e1, t, m, e2, hm⟩
    | inr j => exact h
  · obtain ⟨e1, t, e2⟩ := I.pn i b hb
    exact ⟨by rw [hn i _ e2]; exact e1, t, e2⟩
theorem Chg.symm {vs : List Nat} {σ σ' : L2.St} (h : Chg vs σ σ') : Chg vs σ' σ := ⟨h.1.symm, fun i hi => (h.2 i hi).symm⟩
/-- [el for g in wi if c]: Pv: what stands ahead of the i-th turn, what is gathered -/
def wLc (wi : WI) (g : WG) (c : WB) (el : WV) (vs : List Nat) (τ : PSt) (Q : T → Md → PSt → Prop) : Prop := wi τ fun ts τ1 => ts.length ≤ sizeLine ∧ ∃ Pv : Nat → List T → PSt → Prop, (∀ i acc τ, Pv i acc τ → npn τ vs) ∧ Pv 0 [] τ1 ∧
  (∀ i t acc τ, ts[i]? = some t → Pv i acc τ → g t (wipeP τ vs) fun τ2 => c τ2 fun k τ3 =>
    if k = true then el τ3 fun y τ4 => npn τ4 vs ∧ Pv (i + 1) (acc ++ [y]) (wipeP τ4 vs) else npn τ3 vs ∧ Pv (i + 1) acc (wipeP τ3 vs)) ∧
  ∀ acc τ, Pv ts.length acc τ → Q (.lst acc) .ow (wipeP τ vs)
@[simp] def wYes (τ : PSt) (Q : Bool → PSt → Prop) : Prop := Q true τ
theorem lc_imp {K : PySem.W.Frag} {wi : WI} {ks : List Nat} {g : WG} {c : WB} {el : WV} {vs : List Nat} (hk : ∀ i ∈ ks, i ∈ vs) (σ : L2.St) (H : Hp) (Q : VK) (hw : tE K (wLc wi g c el vs) σ H Q) : tLc (tI K wi) (tG K ks g) (tW K c) (tV K el) vs σ H Q := by
  obtain ⟨E, Hs, τ, tmp, PQ, I, hw, q⟩ := hw
  refine ⟨E, Hs, τ, tmp, _, I, hw, fun Hs1 H1 τ1 tmp1 ts J I1 ok p1 => ?_⟩
  intro D hD
  obtain ⟨hsz, Pv, pn, p0, step, fin⟩ := p1
  -- the state ahead of a turn
  have start : INV K E Hs1 (upd H1 D (.lst [])) (wipe σ vs) (wipeP τ1 vs) (tmp ++ tmp1 ++ [(.ref D, .lst [], .ow)]) := (I1.allocO hD (CellO.mkL (RL.nil.mpr rfl))).wipe (pn _ _ _ p0)
  refine ⟨fun i m H => m = ts.length - i ∧ i ≤ ts.length ∧ ∃ Hs τ acc, INV K E Hs H (wipe σ vs) (wipeP τ vs) (tmp ++ tmp1 ++ [(.ref D, .lst acc, .ow)]) ∧ acc.length ≤ i ∧ Pv i acc τ, ⟨_, rfl, Nat.zero_le _, Hs1, τ1, [], start, Nat.le_refl _, p0⟩, ?_⟩
  rintro i m H2 ⟨rfl, hle, Hs2, τ2, acc, I2, hac, p2⟩
  obtain ⟨go, stop⟩ := ok _ Hs2 H2 _ _ I2
  by_cases hlt : i < ts.length
  · have et : ts[i]? = some ts[i] := List.getElem?_eq_getElem hlt
    obtain ⟨g1, g2⟩ := go i _ et
    refine .inr ⟨g1, fun H' => ∃ Hs τ acc, INV K E Hs H' (wipe σ vs) (wipeP τ vs) (tmp ++ tmp1 ++ [(.ref D, .lst acc, .ow)]) ∧ acc.length ≤ i + 1 ∧ Pv (i + 1) acc τ, ?_, fun x H' y => ?_⟩
    · rintro H' ⟨Hs', τ', acc', I', ha', p'⟩
      exact ⟨ts.length - (i + 1), by omega, rfl, hlt, Hs', τ', acc', I', ha', p'⟩
    · obtain ⟨Hs3, I3⟩ := g2 x H' y
      refine ⟨E, Hs3, _, _, _, _, I3.pop, top1 I3, step i _ acc τ2 et p2, fun Hs4 H4 σ4 τ4 I4 c4 p4 => ?_⟩
      have cw : Chg vs (wipe σ vs) σ4 := c4.mono hk
      have ew : wipe σ4 vs = wipe σ vs := (wipe_of cw).trans (wipe_of Chg.wipe)
      refine ⟨ew, E, Hs4, τ4, _, _, I4, p4, fun Hs5 H5 τ5 k I5 p5 => ?_⟩
      cases k
      · refine ⟨Hs5, wipeP τ5 vs, acc, ?_, by omega, p5.2⟩
        have J2 := (I5.wipe p5.1).wipe (vs := vs) npn_wipe
        rw [ew, wipe_of Chg.wipe] at J2
        exact J2
      · refine ⟨E, Hs5, τ5, _, _, I5, p5, fun Hs6 H6 τ6 u v I6 p6 => ?_⟩
        obtain ⟨hn, p6⟩ := p6
        have r6 : R K Hs6 u v := top1 I6
        obtain ⟨b, o, eb, h1, h2, hc⟩ := (OK.own (by decide : Md.ow ≠ .sh)).mp (top1 I6.pop)
        cases eb
        obtain ⟨ws, rfl, rw'⟩ := hc
        refine ⟨ws, h2, by rw [rw'.length]; omega, Hs6, wipeP τ6 vs, acc ++ [u], ?_, by rw [List.length_append, List.length_singleton]; omega, p6⟩
        have J := (I6.pop.writeT (by decide) (CellO.mkL (rw'.append (RL.one r6)))).wipe hn
        have J2 := J.wipe (vs := vs) npn_wipe
        rw [ew, wipe_of Chg.wipe] at J2
        exact J2
  · have e : i = ts.length := by omega
    subst e
    exact .inl ⟨stop, q Hs2 H2 _ _ _ _ ((I2.back (Chg.wipe).symm (pn _ _ _ p2)).mid) (fin acc τ2 p2)⟩
section
variable {X : Cx} {elt tg iter : Expr} {ifs : List Expr} {scope : Scope} {own : List (Str × Nat)} {pos : Pos} {wi : WI} {ks : List Nat} {g : WG} {c : WB} {el : WV}
/-- the tests of a comprehension -/
abbrev LTs (X : Cx) (ifs : List Expr) (c : WB) : Prop := PTs X ifs (tW X.K c)
theorem _root_.L2.PTs.imp {X : Cx} {e : List Expr} {t t' : TT} (h : PTs X e t') (i : ∀ σ H Q, t σ H Q → t' σ H Q) : PTs X e t := ⟨fun pins s σ H Q I hw => h.run pins s σ H Q I (i σ H Q hw)⟩
theorem lts_nil : LTs X [] wYes := (pts_nil (X := X)).imp fun σ H Q hw => by
  obtain ⟨E, Hs, τ, tmp, PQ, I, hw, hq⟩ := hw
  exact hq Hs H τ true I hw
theorem lts_one {e : Expr} {w : WB} (h : LB X e w) : LTs X [e] w := pts_one h
theorem le_lc (hc : X.calm = true) (hN : X.N.Nodup) (hi : LI X tg iter wi) (ok : BlkOk X.N X.env.scope scope own) (hk : ∀ i ∈ ks, i ∈ own.map (·.2))
    (hg : ∀ (s : Shared) (H : Hp) (C : Addr) (cl : List (Str × Addr)) (fp : List Addr), LG (X.blk s H scope (compEnvC scope cl C X.env) fp) tg ks g) (ht : ∀ (s : Shared) (H : Hp) (C : Addr) (cl : List (Str × Addr)) (fp : List Addr), LTs (X.blk s H scope (compEnvC scope cl C X.env) fp) ifs c)
    (he : ∀ (s : Shared) (H : Hp) (C : Addr) (cl : List (Str × Addr)) (fp : List Addr), LV (X.blk s H scope (compEnvC scope cl C X.env) fp) elt el) (hs : ∀ x, foldedSetIterable iter X.env x = pure x := by intro _; rfl) :
    LE X (.ListComp elt [⟨tg, iter, ifs, 0⟩] scope pos) (wLc wi g c el (own.map (·.2))) :=
  (pe_lc hc hN hi ok hg ht he hs).imp fun σ H Q h => lc_imp hk σ H Q h
theorem ls_setLc {i : Nat} {y : Str} {py spos : Pos} (hc : X.calm = true) (hN : X.N.Nodup) (hy : X.N[i]? = some y) (hyl : X.env.scope.names.lookup y = some .local)
    (hsw : swapsWith (.ListComp elt [⟨tg, iter, ifs, 0⟩] scope pos) (some (.Name y py)) spos.line X.env = pure true) (hi : LI X tg iter wi) (ok : BlkOk X.N X.env.scope scope own) (hk : ∀ i ∈ ks, i ∈ own.map (·.2))
    (hg : ∀ (s : Shared) (H : Hp) (C : Addr) (cl : List (Str × Addr)) (fp : List Addr), LG (X.blk s H scope (compEnvC scope cl C X.env) fp) tg ks g) (ht : ∀ (s : Shared) (H : Hp) (C : Addr) (cl : List (Str × Addr)) (fp : List Addr), LTs (X.blk s H scope (compEnvC scope cl C X.env) fp) ifs c)
    (he : ∀ (s : Shared) (H : Hp) (C : Addr) (cl : List (Str × Addr)) (fp : List Addr), LV (X.blk s H scope (compEnvC scope cl C X.env) fp) elt el) (hs : ∀ x, foldedSetIterable iter X.env x = pure x := by intro _; rfl) :
    LS X (.Assign [.Name y py] (.ListComp elt [⟨tg, iter, ifs, 0⟩] scope pos) spos) (wSet i (wLc wi g c el (own.map (·.2)))) :=
  (ps_setLc hc hN hy hyl hsw hi ok hg ht he hs).imp (set_imp (lc_imp hk))
end
end Z

set_option Elab.async false
set_option linter.all false
set_option maxRecDepth 100000
set_option maxHeartbeats 1000000
/-! Z10: dicts: comprehensions, displays, update. -/
namespace Z
open PySem PySem.Spec PyProof.Rows L2

theorem CellO.mkD {K : PySem.W.Frag} {Hs : Hp} {ts : List T} {l : List (Key × V)} (r : RL K Hs ts (l.map (·.2))) : CellO K Hs (.dic (l.map (·.1)) ts) (.dK l) := ⟨_, ⟨l, rfl, rfl, rfl⟩, r⟩
theorem CellO.mkDt {K : PySem.W.Frag} {Hs : Hp} {ts : List T} {l : List (List Key × V)} (r : RL K Hs ts (l.map (·.2))) : CellO K Hs (.dit (l.map (·.1)) ts) (.dT l) := ⟨_, ⟨l, rfl, rfl, rfl⟩, r⟩
def wDc (wi : WI) (g : WG) (c : WB) (kx vx : WV) (vs : List Nat) (τ : PSt) (Q : T → Md → PSt → Prop) : Prop := wi τ fun ts τ1 => ts.length ≤ sizeLine ∧ ∃ Pv : Nat → List Key → List T → PSt → Prop, (∀ i ks acc τ, Pv i ks acc τ → npn τ vs) ∧ Pv 0 [] [] τ1 ∧
  (∀ i t ks acc τ, ts[i]? = some t → Pv i ks acc τ → g t (wipeP τ vs) fun τ2 => c τ2 fun b τ3 =>
    if b = true then kx τ3 fun y τ4 => vx τ4 fun z τ5 => npn τ5 vs ∧ ∃ k, keyT y = some k ∧ Pv (i + 1) (putKs ks k) (putTs ks acc k z) (wipeP τ5 vs) else npn τ3 vs ∧ Pv (i + 1) ks acc (wipeP τ3 vs)) ∧
  ∀ ks acc τ, Pv ts.length ks acc τ → Q (.dic ks acc) .ow (wipeP τ vs)
theorem dc_imp {K : PySem.W.Frag} {wi : WI} {ks : List Nat} {g : WG} {c : WB} {kx vx : WV} {vs : List Nat} (hk : ∀ i ∈ ks, i ∈ vs) (σ : L2.St) (H : Hp) (Q : VK) (hw : tE K (wDc wi g c kx vx vs) σ H Q) : tDc (tI K wi) (tG K ks g) (tW K c) (tV K kx) (tV K vx) vs σ H Q := by
  obtain ⟨E, Hs, τ, tmp, PQ, I, hw, q⟩ := hw
  refine ⟨E, Hs, τ, tmp, _, I, hw, fun Hs1 H1 τ1 tmp1 ts J I1 ok p1 => ?_⟩
  intro D hD
  obtain ⟨hsz, Pv, pn, p0, step, fin⟩ := p1
  have start : INV K E Hs1 (upd H1 D (.dK [])) (wipe σ vs) (wipeP τ1 vs) (tmp ++ tmp1 ++ [(.ref D, .dic [] [], .ow)]) := (I1.allocO hD (CellO.mkD (l := []) (RL.nil.mpr rfl))).wipe (pn _ _ _ _ p0)
  refine ⟨fun i m H => m = ts.length - i ∧ i ≤ ts.length ∧ ∃ Hs τ ks acc, INV K E Hs H (wipe σ vs) (wipeP τ vs) (tmp ++ tmp1 ++ [(.ref D, .dic ks acc, .ow)]) ∧ ks.length ≤ i ∧ Pv i ks acc τ, ⟨_, rfl, Nat.zero_le _, Hs1, τ1, [], [], start, Nat.le_refl _, p0⟩, ?_⟩
  rintro i m H2 ⟨rfl, hle, Hs2, τ2, kk, acc, I2, hac, p2⟩
  obtain ⟨go, stop⟩ := ok _ Hs2 H2 _ _ I2
  by_cases hlt : i < ts.length
  · have et : ts[i]? = some ts[i] := List.getElem?_eq_getElem hlt
    obtain ⟨g1, g2⟩ := go i _ et
    refine .inr ⟨g1, fun H' => ∃ Hs τ ks acc, INV K E Hs H' (wipe σ vs) (wipeP τ vs) (tmp ++ tmp1 ++ [(.ref D, .dic ks acc, .ow)]) ∧ ks.length ≤ i + 1 ∧ Pv (i + 1) ks acc τ, ?_, fun x H' y => ?_⟩
    · rintro H' ⟨Hs', τ', kk', acc', I', ha', p'⟩
      exact ⟨ts.length - (i + 1), by omega, rfl, hlt, Hs', τ', kk', acc', I', ha', p'⟩
    · obtain ⟨Hs3, I3⟩ := g2 x H' y
      refine ⟨E, Hs3, _, _, _, _, I3.pop, top1 I3, step i _ kk acc τ2 et p2, fun Hs4 H4 σ4 τ4 I4 c4 p4 => ?_⟩
      have cw : Chg vs (wipe σ vs) σ4 := c4.mono hk
      have ew : wipe σ4 vs = wipe σ vs := (wipe_of cw).trans (wipe_of Chg.wipe)
      refine ⟨ew, E, Hs4, τ4, _, _, I4, p4, fun Hs5 H5 τ5 b I5 p5 => ?_⟩
      cases b
      · refine ⟨Hs5, wipeP τ5 vs, kk, acc, ?_, by omega, p5.2⟩
        have J2 := (I5.wipe p5.1).wipe (vs := vs) npn_wipe
        rw [ew, wipe_of Chg.wipe] at J2
        exact J2
      · refine ⟨E, Hs5, τ5, _, _, I5, p5, fun Hs6 H6 τ6 u v I6 p6 => ?_⟩
        refine ⟨E, Hs6, τ6, _, _, I6, p6, fun Hs7 H7 τ7 u' v' I7 p7 => ?_⟩
        obtain ⟨hn, k, ek, p7⟩ := p7
        have r7 : R K Hs7 u' v' := top1 I7
        have r6 : R K Hs7 u v := top1 I7.pop
        obtain ⟨b, o, eb, h1, h2, hc⟩ := (OK.own (by decide : Md.ow ≠ .sh)).mp (top1 I7.pop.pop)
        cases eb
        obtain ⟨ws, ⟨l, rfl, rfl, rfl⟩, rw'⟩ := hc
        have ev := keyT_v (H := Hs7) ek (.inl r6)
        have hlk : l.length ≤ i := by simpa using hac
        refine ⟨l, k, ev, h2, by omega, Hs7, wipeP τ7 vs, _, _, ?_, by
          have := length_putK l k v'
          rw [← putK_keys l k v', List.length_map]; omega, p7⟩
        have J := (I7.pop.pop.writeT (by decide) (CellO.mkD (l := putK l k v') (rw'.put r7))).wipe hn
        have J2 := J.wipe (vs := vs) npn_wipe
        rw [ew, wipe_of Chg.wipe, putK_keys] at J2
        exact J2
  · have e : i = ts.length := by omega
    subst e
    exact .inl ⟨stop, q Hs2 H2 _ _ _ _ ((I2.back (Chg.wipe).symm (pn _ _ _ _ p2)).mid) (fin kk acc τ2 p2)⟩
section
variable {X : Cx} {kx vx tg iter : Expr} {ifs : List Expr} {scope : Scope} {own : List (Str × Nat)} {pos : Pos} {wi : WI} {ks : List Nat} {g : WG} {c : WB} {wk wv : WV}
theorem le_dc (hc : X.calm = true) (hN : X.N.Nodup) (hi : LI X tg iter wi) (ok : BlkOk X.N X.env.scope scope own) (hk : ∀ i ∈ ks, i ∈ own.map (·.2))
    (hg : ∀ (s : Shared) (H : Hp) (C : Addr) (cl : List (Str × Addr)) (fp : List Addr), LG (X.blk s H scope (compEnvC scope cl C X.env) fp) tg ks g) (ht : ∀ (s : Shared) (H : Hp) (C : Addr) (cl : List (Str × Addr)) (fp : List Addr), LTs (X.blk s H scope (compEnvC scope cl C X.env) fp) ifs c)
    (hkx : ∀ (s : Shared) (H : Hp) (C : Addr) (cl : List (Str × Addr)) (fp : List Addr), LV (X.blk s H scope (compEnvC scope cl C X.env) fp) kx wk)
    (he : ∀ (s : Shared) (H : Hp) (C : Addr) (cl : List (Str × Addr)) (fp : List Addr), LV (X.blk s H scope (compEnvC scope cl C X.env) fp) vx wv) (hs : ∀ x, foldedSetIterable iter X.env x = pure x := by intro _; rfl) :
    LE X (.DictComp kx vx [⟨tg, iter, ifs, 0⟩] scope pos) (wDc wi g c wk wv (own.map (·.2))) :=
  (pe_dc hc hN hi ok hg ht hkx he hs).imp fun σ H Q h => dc_imp hk σ H Q h
/-- {} -/
@[simp] def wNewK (τ : PSt) (Q : T → Md → PSt → Prop) : Prop := Q (.dic [] []) .ow τ
@[simp] def wNewT (τ : PSt) (Q : T → Md → PSt → Prop) : Prop := Q (.dit [] []) .ow τ
theorem le_newK : LE X (.Dict [] [] pos) wNewK := (pe_dnewK (X := X)).imp fun σ H Q hw => by
  obtain ⟨E, Hs, τ, tmp, PQ, I, hw, hq⟩ := hw
  exact fun p hp => hq _ _ _ _ _ _ (I.allocO hp (CellO.mkD (l := []) (RL.nil.mpr rfl))) hw
theorem le_newT : LE X (.Dict [] [] pos) wNewT := (pe_dnewT (X := X)).imp fun σ H Q hw => by
  obtain ⟨E, Hs, τ, tmp, PQ, I, hw, hq⟩ := hw
  exact fun p hp => hq _ _ _ _ _ _ (I.allocO hp (CellO.mkDt (l := []) (RL.nil.mpr rfl))) hw
/-- {k: v} -/
@[simp] def wDis1 (wk wv : WV) (τ : PSt) (Q : T → Md → PSt → Prop) : Prop := wk τ fun t τ1 => wv τ1 fun u τ2 => ∃ k, keyT t = some k ∧ Q (.dic [k] [u]) .ow τ2
theorem le_dis1 {k v : Expr} {wk wv : WV} (hk : LV X k wk) (hv : LV X v wv) : LE X (.Dict [some k] [v] pos) (wDis1 wk wv) :=
  (pe_disp (pps_cons hk hv pps_nil) rfl rfl (by simp) (by simp)).imp fun σ H Q hw => by
    obtain ⟨E, Hs, τ, tmp, PQ, I, hw, hq⟩ := hw
    intro p hp
    have I0 := I.allocO hp (CellO.mkD (l := []) (K := X.K) (Hs := Hs) (RL.nil.mpr rfl))
    refine ⟨E, Hs, τ, _, _, I0, hw, fun Hs1 H1 τ1 t v I1 p1 => ?_⟩
    refine ⟨E, Hs1, τ1, _, _, I1, p1, fun Hs2 H2 τ2 u z I2 p2 => ?_⟩
    obtain ⟨key, ek, p2⟩ := p2
    have r2 : R X.K Hs2 u z := top1 I2
    have r1 : R X.K Hs2 t v := top1 I2.pop
    obtain ⟨b, o, eb, h1, h2, hc⟩ := (OK.own (by decide : Md.ow ≠ .sh)).mp (top1 I2.pop.pop)
    cases eb
    obtain ⟨ws, ⟨l, rfl, el, e2⟩, rw'⟩ := hc
    have e0 := List.map_eq_nil_iff.mp el
    subst e0
    have ev := keyT_v (H := Hs2) ek (.inl r1)
    refine ⟨h2, [(key, z)], by rw [ev]; rfl, by simp, ?_⟩
    exact hq _ _ _ _ _ _ (I2.pop.pop.writeT (by decide) (CellO.mkD (l := [(key, z)]) (RL.one r2))) p2
end
/-! ### d.update(e) -/
def mergKs (ks : List Key) (ts : List T) : List Key → List T → List Key × List T
  | k :: kr, t :: tr => mergKs (putKs ks k) (putTs ks ts k t) kr tr
  | _, _ => (ks, ts)
def rUpd : V → List V → Hp → VK → Prop := fun x vs H Q => ∃ d e kvs more, x = .ref d ∧ vs = [.ref e] ∧ d ≠ e ∧ H d = some (.dK kvs) ∧ H e = some (.dK more) ∧ kvs.length + more.length ≤ sizeLine ∧ Q .non (upd H d (.dK (mergeK kvs more)))
theorem mt_upd {X : Cx} : MtR X "dict.update" rUpd := by
  intro pins s σ H x xs v us Q I rx rv h
  obtain ⟨d, e, kvs, more, rfl, rfl, hde, hd, he, hz, q⟩ := h
  cases (show v = Value.ref d from rx)
  obtain rfl := Vals.ref1 rv
  obtain ⟨z1, s1, vs1, r1, d1⟩ := dk_of I.hok hd
  obtain ⟨z2, s2, vs2, r2, d2⟩ := dk_of I.hok he
  have l1 : kvs.length = vs1.length := Paired.length r1
  have l2 : more.length = vs2.length := Paired.length r2
  refine call_meetsIn PySem.F.slot_dict_update d1.typeIs PySem.F.entry_dict_update (PySem.F.args_dict_update_2 _ _) (meets_dict_update (mixKind X.prog X.w) d e hde s2) ⟨vs1, vs2, d1, d2, by omega, fun h' dd' _ hs => ?_⟩
  have hl := length_mergeK more kvs
  have hx : ∃ q, h'.get? d = some q := let ⟨q, _, _, hq, _⟩ := dd'; ⟨q, hq⟩
  exact ⟨.non, _, d_write (t' := s.toks) I (by rw [hd]; exact True.intro) hs hx (dk_new (by omega) s1 (r2.merge r1) dd'), rfl, q⟩
theorem merg_ok {K : PySem.W.Frag} {Hs : Hp} : ∀ {more : List (Key × V)} {kvs : List (Key × V)} {ts us : List T}, RL K Hs ts (kvs.map (·.2)) → RL K Hs us (more.map (·.2)) →
    ((mergeK kvs more).map (·.1)) = (mergKs (kvs.map (·.1)) ts (more.map (·.1)) us).1 ∧ RL K Hs (mergKs (kvs.map (·.1)) ts (more.map (·.1)) us).2 ((mergeK kvs more).map (·.2))
  | [], kvs, ts, us, h, h' => by
    have e : mergKs (kvs.map (·.1)) ts [] us = (kvs.map (·.1), ts) := by cases us <;> rfl
    exact ⟨by rw [List.map_nil, e]; rfl, by rw [List.map_nil, e]; exact h⟩
  | p :: more, kvs, ts, [], h, h' => by have := RL.nil.mp h'; cases this
  | p :: more, kvs, ts, u :: us, h, h' => by
    obtain ⟨v, r, e, h1, h2⟩ := RL.cons.mp h'
    have e1 : p.2 = v ∧ more.map (·.2) = r := by
      injection e with e1 e2
      exact ⟨e1, e2⟩
    obtain ⟨rfl, rfl⟩ := e1
    have ih := merg_ok (more := more) (kvs := putK kvs p.1 p.2) (h.put (k := p.1) h1) h2
    rw [putK_keys] at ih
    exact ih
@[simp] def wUpd (k : Nat) (w : WV) (τ : PSt) (Q : T → Md → PSt → Prop) : Prop := own τ k (fun c _ => match c with | .dic _ _ => True | _ => False) ∧ w τ fun t τ1 => own τ1 k fun c m => match c, t with
  | .dic ks ts, .dic ls us => ks.length + ls.length ≤ sizeLine ∧ Q .non .sh (τ1.set k (some (.dic (mergKs ks ts ls us).1 (mergKs ks ts ls us).2, m)))
  | _, _ => False
section
variable {X : Cx} {x : Str} {k : Nat} {p apos cpos : Pos} {e : Expr}
theorem le_upd {w : WV} (hN : X.N[k]? = some x) (hv : Vis X.env.scope x) (he : LV X e w) (hd : (x == ("__debug__" : Str)) = false := by decide) (hcd : (x == ("__classdict__" : Str)) = false := by decide)
    (hbase : attributeBase (.Name x p) "update" X.env (eval (.Name x p) X.env) = eval (.Name x p) X.env := by rfl)
    (hfew : ((backTo cpos (starEach [e] X.env)).all (fun x => !x.1) && (backToKw cpos (keywordEach [] X.env)).all (fun x => x.1.isSome)
      && decide ([e].length + ([] : List Keyword).length + (if ([] : List Keyword).isEmpty then 0 else 1) < 30)) = true := by rfl)
    (hline : (apos.endLine == cpos.line) = true := by rfl) (hs : starEach [e] X.env = (false, eval e X.env) :: starEach [] X.env := by rfl) :
    LE X (.Call (.Attribute (.Name x p) "update" apos) [e] [] cpos) (wUpd k w) :=
  PE.imp (pe_bm F.plainAttrs_dict F.slot_dict_update F.type_dict_update mt_upd (pe_var hN hv hd hcd) (pa_cons he pa_nil hs) hbase hfew hline hs rfl) fun σ H Q hw => by
    obtain ⟨E, Hs, τ, tmp, PQ, I, ⟨h0, hw⟩, hq⟩ := hw
    obtain ⟨c0, m0, e0, hm0, hc0⟩ := h0.get
    cases c0 <;> first | exact hc0.elim | skip
    obtain ⟨v0, ev0, k0⟩ := I.sl k _ _ e0
    obtain ⟨a, o, rfl, h1, h2, hc⟩ := (OK.own hm0).mp k0
    obtain ⟨vs, ⟨l, rfl, rfl, rfl⟩, rl⟩ := hc
    have ty : tyV X.K "dict" (.ref a) H := .inr (.inr (.inl ⟨rfl, .inl ⟨l, h2⟩⟩))
    refine ⟨_, ev0, ty, E, Hs, τ, tmp, _, I, hw, fun Hs1 H1 τ1 t v I1 p1 => ?_⟩
    obtain ⟨c, m, e1, hm, p1⟩ := p1.get
    cases c <;> cases t <;> first | exact p1.elim | skip
    have r : R X.K Hs1 _ v := top1 I1
    have I0 := I1.pop
    obtain ⟨v1, ev1, k1⟩ := I0.sl k _ _ e1
    rw [ev0] at ev1; cases ev1
    obtain ⟨b, o, eb, g1, g2, hc⟩ := (OK.own hm).mp k1
    cases eb
    obtain ⟨ws, ⟨l2, rfl, rfl, rfl⟩, rw'⟩ := hc
    simp only [R] at r
    obtain ⟨b, o, vs3, rfl, q3, ⟨l3, rfl, rfl, rfl⟩, r3⟩ := r
    have hab : a ≠ b := fun z => by
      subst z
      rw [g1] at q3; cases q3
    obtain ⟨m1, m2⟩ := merg_ok rw' r3
    refine ⟨a, b, l2, l3, rfl, rfl, hab, g2, I0.le _ _ q3, by simpa using p1.1, ?_⟩
    have cc : CellO X.K Hs1 (.dic _ _) (.dK (mergeK l2 l3)) := ⟨_, ⟨_, rfl, m1, rfl⟩, m2⟩
    exact hq _ _ _ _ _ _ ((I0.write e1 ev0 hm cc).pushN) p1.2
end
end Z

set_option Elab.async false
set_option linter.all false
set_option maxRecDepth 100000
set_option maxHeartbeats 4000000
/-! Z11: sorted of ints and of tuples of ints, of any length, from lists, tuples and dicts. -/
namespace ZS
open PySem PySem.Spec PyProof.Rows Srt SrtO

theorem lex_asym : ∀ (x y : List Int), HT.lexLt x y = true → HT.lexLt y x = false
  | [], [], h => by cases h
  | [], _ :: _, _ => rfl
  | _ :: _, [], h => by cases h
  | a :: x, b :: y, h => by
    rw [HT.lexLt_cons] at h ⊢
    by_cases e : a = b
    · rw [if_pos e] at h; rw [if_pos e.symm]; exact lex_asym x y h
    · rw [if_neg e] at h; rw [if_neg fun z => e z.symm]
      have := of_decide_eq_true h
      exact decide_eq_false (by omega)
theorem lex_ntr : ∀ (x y z : List Int), HT.lexLt y x = false → HT.lexLt z y = false → HT.lexLt z x = false
  | [], [], _, _, h => h
  | [], _ :: _, [], _, h => by cases h
  | [], _ :: _, _ :: _, _, _ => rfl
  | _ :: _, [], _, h, _ => by cases h
  | a :: x, b :: y, [], h1, h2 => by cases h2
  | a :: x, b :: y, c :: z, h1, h2 => by
    rw [HT.lexLt_cons] at h1 h2 ⊢
    by_cases e : c = a
    · rw [if_pos e]
      by_cases e1 : b = a
      · rw [if_pos e1] at h1; rw [if_pos (by omega)] at h2; exact lex_ntr x y z h1 h2
      · rw [if_neg e1] at h1; rw [if_neg (by omega)] at h2
        have a1 := of_decide_eq_false h1
        have a2 := of_decide_eq_false h2
        omega
    · rw [if_neg e]
      refine decide_eq_false ?_
      by_cases e1 : b = a
      · rw [if_neg (by omega)] at h2
        have a2 := of_decide_eq_false h2
        omega
      · rw [if_neg e1] at h1
        have a1 := of_decide_eq_false h1
        by_cases e2 : c = b
        · omega
        · rw [if_neg e2] at h2
          have a2 := of_decide_eq_false h2
          omega
theorem swo_lexk {α : Type} (k : α → List Int) : Swo fun v u => HT.lexLt (k v) (k u) := ⟨fun x y h => lex_asym _ _ h, fun x y z h1 h2 => lex_ntr _ _ _ h1 h2⟩
/-- a tuple of these ints -/
def IsIT (h : Heap) (v : Value) (ns : List Int) : Prop := ∃ t o its n, v = .ref t ∧ h.get? t = some o ∧ o.cls = .type "tuple" ∧ o.data = .seq its n ∧ IntsAre its.toList ns
theorem IsIT.keeps {h h' : Heap} {v : Value} {ns : List Int} (k : ∀ b o, h.get? b = some o → o.cls = .type "tuple" → h'.get? b = some o) (p : IsIT h v ns) : IsIT h' v ns := by
  obtain ⟨t, o, its, n, e, ho, hc, r⟩ := p
  exact ⟨t, o, its, n, e, k t o ho hc, hc, r⟩
section
variable {prog : Program} {w : World} {A : Around} {E : Value → Shared → Prop} {s : Shared}
theorem katLex_ints {b : Bool} {Q : Bool → Shared → Prop} : ∀ {ps qs : List Value} {ns ms : List Int} {i : Nat} {fin : Bool}, IntsAre ps ns → IntsAre qs ms → (ns.length < ms.length ↔ fin = true) →
    (∀ k, k = HT.lexLt ns ms → Q k s) → PySem.W.KatLex prog w A b fin Q (ps.zip qs) i s
  | [], [], _, _, _, fin, .nil, .nil, hf, h => by
    refine PySem.W.kat_nil (h _ ?_)
    rw [HT.lexLt_nil_nil]
    cases fin
    · rfl
    · have := hf.mpr rfl; simp at this
  | [], _ :: _, _, _, _, fin, .nil, .cons m u r, hf, h => by
    refine PySem.W.kat_nil (h _ ?_)
    rw [HT.lexLt_nil_cons]
    exact hf.mp (by simp)
  | _ :: _, [], _, _, _, fin, .cons m u r, .nil, hf, h => by
    refine PySem.W.kat_nil (h _ ?_)
    rw [HT.lexLt_cons_nil]
    cases fin
    · rfl
    · have := hf.mpr rfl; simp at this
  | _ :: ps, _ :: qs, _, _, i, fin, .cons (ns := ns) a t r, .cons (ns := ms) c u r', hf, h => by
    rw [List.zip_cons_cons]
    refine PySem.W.kat_cons (SeqAt.EqAt.int_int a t c u prog w _ _ ?_)
    refine PySem.W.kat_go (fun e1 => ?_) (fun e1 => ?_)
    · have ex : a = c := by simpa using e1
      refine PySem.W.kat_yes (katLex_ints r r' (by simpa using hf) fun k hk => h k ?_)
      rw [hk, HT.lexLt_cons, if_pos ex]
    · have ex : ¬ a = c := by simpa using e1
      have e3 : HT.lexLt (a :: ns) (c :: ms) = decide (a < c) := by rw [HT.lexLt_cons, if_neg ex]
      refine PySem.W.kat_no ?_
      cases hb : (b && i == 0) with
      | true => exact oneLt_int (h _ e3.symm)
      | false => exact PySem.W.kat_one _ _ (PyProof.Rows.lt_int (h _ e3.symm))
theorem truthOf_bool {b : Bool} {Q : Bool → Shared → Prop} (h : Q b s) : wpAny (model prog w) A (truthOfDropped (.bool b)) Q E s := wpAny_truthy_bool h
theorem it_tup {v : Value} {ns : List Int} (p : IsIT s.heap v ns) : ∃ t its, v = .ref t ∧ IsTup s.heap t its ∧ IntsAre its.toList ns := by
  obtain ⟨t, o, its, n, e, ho, hc, hd, r⟩ := p
  exact ⟨t, its, e, ⟨o, ho, hc, n, hd⟩, r⟩
theorem cmpT {vs : List Value} {k : Value → List Int} (b : Bool) (hp : ∀ v ∈ vs, IsIT s.heap v (k v)) : Cmp prog w A s (tuples' b) (fun p => p.1 ∈ vs) (lt2 fun v u => HT.lexLt (k v) (k u)) := by
  intro p q hm hm'
  obtain ⟨t, o, its, n, e, ho, hc, hd, r⟩ := hp _ hm
  obtain ⟨t', o', its', n', e', ho', hc', hd', r'⟩ := hp _ hm'
  show wpAny (model prog w) A (keyLt' (tuples' b) p.1 q.1) (fun z s' => s' = s ∧ z = HT.lexLt (k p.1) (k q.1)) (fun _ _ => False) s
  generalize k p.1 = ns at r ⊢
  generalize k q.1 = ms at r' ⊢
  rw [e, e']
  refine PySem.W.kat_lt ho hd ho' hd' (katLex_ints r r' ?_ fun z hz => ⟨rfl, hz⟩)
  have l1 := r.length
  have l2 := r'.length
  simp only [Array.length_toList] at l1 l2
  rw [decide_eq_true_iff, ← l1, ← l2]
theorem cmpG {vs : List Value} {k : Value → List Int} (hu : A.units < cLine) (hp : ∀ v ∈ vs, IsIT s.heap v (k v)) : Cmp prog w A s general' (fun p => p.1 ∈ vs) (lt2 fun v u => HT.lexLt (k v) (k u)) := by
  intro p q hm hm'
  obtain ⟨t, its, e, it, r⟩ := it_tup (hp _ hm)
  obtain ⟨t', its', e', it', r'⟩ := it_tup (hp _ hm')
  show wpAny (model prog w) A (oneLt' false p.1 q.1) (fun z s' => s' = s ∧ z = HT.lexLt (k p.1) (k q.1)) (fun _ _ => False) s
  generalize k p.1 = ns at r ⊢
  generalize k q.1 = ms at r' ⊢
  rw [e, e']
  exact PySem.W.kat_one _ _ (HT.lt_tupInts it it' r r' hu ⟨rfl, rfl⟩)
theorem cmpO {vs : List Value} {k : Value → List Int} (hu : A.units + 1 < cLine) (hp : ∀ v ∈ vs, IsIT s.heap v (k v)) : Cmp prog w A s oneType' (fun p => p.1 ∈ vs) (lt2 fun v u => HT.lexLt (k v) (k u)) := by
  intro p q hm hm'
  obtain ⟨t, o, its, n, e, ho, hc, hd, r⟩ := hp _ hm
  obtain ⟨t', o', its', n', e', ho', hc', hd', r'⟩ := hp _ hm'
  show wpAny (model prog w) A (keyLt' oneType' p.1 q.1) (fun z s' => s' = s ∧ z = HT.lexLt (k p.1) (k q.1)) (fun _ _ => False) s
  generalize k p.1 = ns at r ⊢
  generalize k q.1 = ms at r' ⊢
  rw [e, e', keyLt'_oneType, oneLt'_eq]
  simp only [if_true]
  obtain ⟨cls, dd, data, sl⟩ := o
  obtain ⟨cls2, dd2, data2, sl2⟩ := o'
  simp only at hc hd hc' hd'
  subst hc hd hc' hd'
  refine wpAny_bind (wpAny_cRoomFor (by omega) ?_)
  refine wpAny_bind (wpAny_callSpecialIfBound?_slot (name := Str.ofString "__lt__") (T := "tuple") ⟨_, ho, rfl⟩ PySem.F.slot_tuple_lt (call_meets PySem.F.slot_tuple_lt ⟨_, ho, rfl⟩ PySem.F.entry_tuple_lt (PySem.F.args_tuple_lt_2 _ _) (HT.tuple_lt_ints t t' its its' n n' dd dd2 sl sl2 ns ms r r') ?_))
  exact ⟨ho, ho', truthOf_bool ⟨rfl, rfl⟩⟩

/-- the first things of tuples -/
theorem it_firsts {M : Model} : ∀ (vs : List Value) {k : Value → List Int} {Q : List (Option Value) → Shared → Prop}, (∀ v ∈ vs, IsIT s.heap v (k v)) →
    (∀ fs : List (Option Value), fs.length = vs.length → (∀ (i : Nat) (v : Value), vs[i]? = some v → ∃ f : Option Value, fs[i]? = some f ∧ (f.isSome = !(k v).isEmpty) ∧ ∀ u, f = some u → ∃ n t, u = Value.int n t) → Q fs s) → wpAny M A (vs.mapM firstOfTuple') Q E s
  | [], _, _, _, h => by
    rw [List.mapM_nil]
    exact wpAny_pure (h [] rfl fun i v e => by simp at e)
  | v :: vs, k, Q, hp, h => by
    obtain ⟨t, o, its, n, e, ho, hc, hd, r⟩ := hp v (List.mem_cons_self ..)
    rw [List.mapM_cons]
    refine wpAny_bind ?_
    rw [PySem.W.kas_first_eq, e]
    refine wpAny_bind (PySem.W.Looks.here (show PySem.W.Looks M s.heap (typeOf (.ref t)) o.cls from (PySem.W.Looks.ld ho).andThen .now) ?_)
    rw [hc, if_neg (by first | decide | simp)]
    refine wpAny_bind (listItems_at ho hd (wpAny_pure ?_))
    refine wpAny_bind (it_firsts vs (k := k) (fun u hu => hp u (List.mem_cons_of_mem _ hu)) fun fs hl hf => wpAny_pure (h _ (by simp [hl]) fun i u hu => ?_))
    cases i with
    | succ i => simpa using hf i u (by simpa using hu)
    | zero =>
      have : v = u := by simpa using hu
      subst this
      refine ⟨its[0]?, rfl, ?_, fun z hz => ?_⟩
      · obtain ⟨its⟩ := its
        generalize k v = ns at r ⊢
        cases r <;> simp
      · obtain ⟨its⟩ := its
        generalize k v = ns at r
        cases r with
        | nil => simp at hz
        | cons m t r => simp at hz; exact ⟨m, t, hz.symm⟩
theorem it_types {M : Model} : ∀ (vs : List Value) {T : Value} {Q : List Value → Shared → Prop}, (∀ v ∈ vs, PySem.W.Looks M s.heap (typeOf v) T) → Q (vs.map fun _ => T) s → wpAny M A (vs.mapM typeOf) Q E s :=
  fun vs T Q h q => PySem.W.kas_mapM (r := T) vs (fun v hv Q' hq => (h v hv).here hq) q
theorem one_types {M : Model} {vs : List Value} {T : Value} {Q : Option Value → Shared → Prop} (h0 : vs ≠ []) (hT : (T == T) = true) (h : ∀ v ∈ vs, PySem.W.Looks M s.heap (typeOf v) T) (q : Q (some T) s) : wpAny M A (oneTypeOnly' vs.toArray) Q E s := by
  rw [oneTypeOnly'_eq, List.mapM_toArray, map_eq_pure_bind]
  refine wpAny_bind (wpAny_bind (it_types vs h (wpAny_pure ?_)))
  have hall : ((List.map (fun _ => T) vs).toArray.all fun x => x == T) = true := by
    simp only [List.all_toArray, List.all_map, List.all_eq_true]
    intro _ _
    exact hT
  have h0 : (List.map (fun _ => T) vs).toArray[0]? = some T := by
    cases vs with
    | nil => exact absurd rfl h0
    | cons v vs => simp
  rw [h0]
  simp only [hall, if_true]
  exact wpAny_pure q
theorem it_kind {vs : List Value} {k : Value → List Int} {Q : SortKind → Shared → Prop} (h0 : vs ≠ []) (hp : ∀ v ∈ vs, IsIT s.heap v (k v)) (q1 : (∀ v ∈ vs, k v ≠ []) → Q (tuples' true) s) (q2 : (¬ ∀ v ∈ vs, k v ≠ []) → (∃ v, vs[0]? = some v ∧ k v ≠ []) → Q general' s) (q3 : (¬ ∀ v ∈ vs, k v ≠ []) → (∃ v, vs[0]? = some v ∧ k v = []) → Q oneType' s) :
    wpAny (model prog w) A (keyKind' vs.toArray) Q E s := by
  rw [keyKind'_eq, List.mapM_toArray, map_eq_pure_bind]
  refine wpAny_bind (wpAny_bind (it_firsts vs hp fun fs hl hf => wpAny_pure ?_))
  by_cases ha : (fs.toArray.all fun x => x.isSome) = true
  · rw [if_pos ha]
    have hne : ∀ v ∈ vs, k v ≠ [] := fun v hv e => by
      obtain ⟨i, hi, ev⟩ := List.getElem_of_mem hv
      obtain ⟨f, ef, es, _⟩ := hf i v (by rw [List.getElem?_eq_getElem hi, ev])
      rw [e] at es
      simp only [List.all_toArray, List.all_eq_true] at ha
      have := ha f (List.mem_of_getElem? ef)
      rw [es] at this
      cases this
    have hlen : 0 < vs.length := List.length_pos_iff.mpr h0
    have hff : fs.toArray.filterMap id = (fs.filterMap id).toArray := by simp
    have hints : ∀ u ∈ fs.filterMap id, ∃ n t, u = Value.int n t := fun u hu => by
      obtain ⟨f, hf1, hf2⟩ := List.mem_filterMap.mp hu
      obtain ⟨i, hi, ev⟩ := List.getElem_of_mem hf1
      obtain ⟨f', ef, _, g⟩ := hf i (vs[i]'(by omega)) (List.getElem?_eq_getElem _)
      rw [List.getElem?_eq_getElem hi, ev] at ef
      cases ef
      exact g u hf2
    have hnn : fs.filterMap id ≠ [] := fun e => by
      obtain ⟨f, ef, es, _⟩ := hf 0 (vs[0]'hlen) (List.getElem?_eq_getElem _)
      have hm := List.mem_of_getElem? ef
      simp only [List.all_toArray, List.all_eq_true] at ha
      have := ha f hm
      cases f with
      | none => cases this
      | some u =>
        have : u ∈ fs.filterMap id := List.mem_filterMap.mpr ⟨some u, hm, rfl⟩
        rw [e] at this; cases this
    refine wpAny_bind (wpAny_rule ?_)
    rw [hff]
    refine wpAny_bind (one_types (T := .type "int") hnn (by rfl) (fun u hu => ?_) ?_)
    · obtain ⟨n, t, rfl⟩ := hints u hu
      exact PySem.W.Looks.now
    · have e : ((some (Value.type "int")).any fun x => x != Value.type "tuple") = true := by first | decide +kernel | rfl | decide
      rw [e]
      exact wpAny_pure (q1 hne)
  · rw [if_neg ha]
    have hlen : 0 < vs.length := List.length_pos_iff.mpr h0
    have hno : ¬ ∀ v ∈ vs, k v ≠ [] := fun hall => ha (by
      simp only [List.all_toArray, List.all_eq_true]
      intro f hf1
      obtain ⟨i, hi, ev⟩ := List.getElem_of_mem hf1
      obtain ⟨f', ef, g, _⟩ := hf i (vs[i]'(by omega)) (List.getElem?_eq_getElem _)
      rw [List.getElem?_eq_getElem hi, ev] at ef
      cases ef
      rw [g]
      have := hall _ (List.getElem_mem (by omega : i < vs.length))
      simpa using this)
    obtain ⟨f, ef, es, _⟩ := hf 0 (vs[0]'hlen) (List.getElem?_eq_getElem _)
    have e0 : fs.toArray[0]?.bind id = f := by
      have : fs.toArray[0]? = some f := by simpa using ef
      rw [this]; rfl
    rw [e0]
    have ev0 : vs[0]? = some (vs[0]'hlen) := List.getElem?_eq_getElem _
    split
    · rename_i hs
      refine wpAny_pure (q2 hno ⟨_, ev0, fun e => ?_⟩)
      rw [es, e] at hs
      cases hs
    · rename_i hs
      have hk0 : k (vs[0]'hlen) = [] := by
        rw [es] at hs
        cases hk : k (vs[0]'hlen) with
        | nil => rfl
        | cons a b => rw [hk] at hs; exact absurd rfl hs
      refine wpAny_bind (one_types (T := .type "tuple") h0 (by rfl) (fun u hu => ?_) ?_)
      · obtain ⟨t, o, its, n, e, ho, hc, hd, r⟩ := hp u hu
        rw [e, ← hc]
        exact (PySem.W.Looks.ld ho).andThen .now
      · exact wpAny_pure (q3 hno ⟨_, ev0, hk0⟩)
theorem it_sortable {a : Addr} {vs : List Value} {k : Value → List Int} (h0 : vs ≠ []) (hu : A.units + 1 < cLine) (hp : ∀ v ∈ vs, IsIT s.heap v (k v)) (ha : ∀ o, s.heap.get? a = some o → o.cls ≠ .type "tuple") : SortableO prog w A s a vs fun v u => HT.lexLt (k v) (k u) := by
  intro h' keep
  have hp' : ∀ v ∈ vs, IsIT h' v (k v) := fun v hm => (hp v hm).keeps fun b o e c => keep b o (fun z => by subst z; exact ha o e c) e
  have key : ∃ κ, (∀ (Q : SortKind → Shared → Prop) (E : Value → Shared → Prop), Q κ { s with heap := h' } → wpAny (model prog w) A (keyKind' vs.toArray) Q E { s with heap := h' }) ∧ (κ = tuples' true ∨ κ = general' ∨ κ = oneType') := by
    by_cases c1 : ∀ v ∈ vs, k v ≠ []
    · exact ⟨_, fun Q E hq => it_kind h0 hp' (fun _ => hq) (fun z => absurd c1 z) (fun z => absurd c1 z), .inl rfl⟩
    · by_cases c2 : ∃ v, vs[0]? = some v ∧ k v ≠ []
      · refine ⟨_, fun Q E hq => it_kind h0 hp' (fun z => absurd z c1) (fun _ _ => hq) (fun _ c3 => ?_), .inr (.inl rfl)⟩
        obtain ⟨v, e, h⟩ := c2
        obtain ⟨u, e', h'⟩ := c3
        rw [e] at e'; cases e'; exact absurd h' h
      · exact ⟨_, fun Q E hq => it_kind h0 hp' (fun z => absurd z c1) (fun _ c3 => absurd c3 c2) (fun _ _ => hq), .inr (.inr rfl)⟩
  obtain ⟨κ, h1, h2⟩ := key
  refine ⟨κ, h1, ?_⟩
  rcases h2 with rfl | rfl | rfl
  · exact cmpT true hp'
  · exact cmpG (by omega) hp'
  · exact cmpO hu hp'

theorem lex_one (a b : Int) : HT.lexLt [a] [b] = decide (a < b) := by
  rw [HT.lexLt_cons]
  by_cases e : a = b
  · subst e; rw [if_pos rfl, HT.lexLt_nil_nil]; exact (decide_eq_false (Int.lt_irrefl _)).symm
  · rw [if_neg e]
theorem int_sortable {a : Addr} {vs : List Value} {k : Value → List Int} (hp : ∀ v ∈ vs, ∃ n t, v = Value.int n t ∧ k v = [n]) (h2 : 2 ≤ vs.length) : SortableO prog w A s a vs fun v u => HT.lexLt (k v) (k u) := by
  intro h' _
  refine ⟨oneType', fun Q E hq => ?_, fun p q hm hm' => ?_⟩
  · have hI : IntsAre vs (vs.map iv) := ints_iv fun v hv => let ⟨n, t, e, _⟩ := hp v hv; ⟨n, t, e⟩
    match vs, hI, h2 with
    | v1 :: v2 :: rest, hI, _ =>
      rw [keyKind_ints hI]
      exact wpAny_pure hq
    | [], _, h => exact absurd h (by decide)
    | [v], _, h => exact absurd h (by simp)
  · obtain ⟨m, t, e, e1⟩ := hp _ hm
    obtain ⟨n, u, e', e2⟩ := hp _ hm'
    show wpAny (model prog w) A (keyLt' oneType' p.1 q.1) (fun r s' => s' = _ ∧ r = HT.lexLt (k p.1) (k q.1)) (fun _ _ => False) _
    rw [e1, e2, e, e', keyLt'_oneType, lex_one]
    exact oneLt_int ⟨rfl, rfl⟩
end
end ZS
namespace Z
open PySem PySem.Spec PyProof.Rows L2
/-- the plain value of a value -/
def bv : Value → V
  | .int i _ => .int i
  | .ref a => .ref a
  | _ => .non
theorem bv_int {n : Int} {u : Value} (r : RelV (.int n) u) : bv u = .int n := by obtain ⟨t, rfl⟩ := r; rfl
theorem bv_ref {a : Addr} {u : Value} (r : RelV (.ref a) u) : bv u = .ref a := by cases r; rfl
def IR (x : V) : Prop := (∃ n, x = .int n) ∨ ∃ a, x = .ref a
theorem bv_back : ∀ {xs : List V} {us : List Value}, Vals xs us → (∀ x ∈ xs, IR x) → xs = us.map bv ∧ ∀ u ∈ us, RelV (bv u) u
  | _, _, .nil, _ => ⟨rfl, fun u hu => absurd hu (by simp)⟩
  | x :: xs, u :: us, .cons r t, h => by
    obtain ⟨h1, h2⟩ := bv_back t fun y hy => h y (List.mem_cons_of_mem _ hy)
    have e : bv u = x := by
      rcases h x (List.mem_cons_self ..) with ⟨n, rfl⟩ | ⟨a, rfl⟩
      · exact bv_int r
      · exact bv_ref r
    refine ⟨by rw [List.map_cons, ← h1, e], fun z hz => ?_⟩
    rcases List.mem_cons.mp hz with e2 | hz
    · rw [e2, e]; exact r
    · exact h2 z hz
theorem vals_bv : ∀ {us : List Value}, (∀ u ∈ us, RelV (bv u) u) → Vals (us.map bv) us
  | [], _ => .nil
  | u :: us, h => .cons (h u (List.mem_cons_self ..)) (vals_bv fun z hz => h z (List.mem_cons_of_mem _ hz))
/-- what sorted walks: a list, a tuple, a dict's keys -/
def Src (K : PySem.W.Frag) (H : Hp) (x : V) (xs : List V) : Prop := ∃ a, x = .ref a ∧ ((SqL K H a xs ∨ SqT K H a xs) ∨ ∃ kvs : List (Key × V), Rd H a (.dK kvs) ∧ xs = kvs.map (fun kv => kV kv.1))
theorem keys_vals0 : ∀ {kvs : List (Key × V)} {vs : List (Key × Value)} {us : List Value}, KV kvs vs → us.length = vs.length → (∀ (j : Nat) v, us[j]? = some v → ∃ k x, vs[j]? = some (k, x) ∧ keyIs k v = true) → Vals (kvs.map fun kv => kV kv.1) us
  | _, _, us, .nil, hl, _ => by
    have e := List.eq_nil_of_length_eq_zero hl
    subst e; exact .nil
  | p :: ps, q :: qs, [], .cons h t, hl, _ => by cases hl
  | p :: ps, q :: qs, u :: us, .cons h t, hl, hf => by
    rw [List.map_cons]
    refine .cons ?_ (keys_vals0 t (by simpa using hl) fun j v e => by
      obtain ⟨k, x, e1, e2⟩ := hf (j + 1) v (by simpa using e)
      exact ⟨k, x, by simpa using e1, e2⟩)
    obtain ⟨k, x, e1, e2⟩ := hf 0 u rfl
    have e1 : q = (k, x) := by simpa using e1
    have ek : p.1 = k := by rw [h.1, e1]
    rw [ek]
    rcases keyIs_shape e2 with ⟨i, t, ek, ev⟩ | ⟨z, t, ek, ev⟩
    · subst ek; subst ev; exact ⟨t, rfl⟩
    · subst ek; subst ev; exact ⟨t, rfl⟩
section
variable {X : Cx} {pins : List (Addr × Obj)} {σ : L2.St} {H : Hp} {s : Shared} {E : Value → Shared → Prop}
theorem keys_vals {kvs : List (Key × V)} {vs : List (Key × Value)} {acc : Array Value} (r : KV kvs vs) (hacc : ItemsOf (fun i v => ∃ k x, vs[i]? = some (k, x) ∧ (mixKind X.prog X.w).is k v = true) acc vs.length) : Vals (kvs.map fun kv => kV kv.1) acc.toList := by
  obtain ⟨us⟩ := acc
  obtain ⟨hl, hf⟩ := hacc
  have hl : us.length = vs.length := by simpa using hl
  have hf : ∀ (j : Nat) v, us[j]? = some v → ∃ k x, vs[j]? = some (k, x) ∧ keyIs k v = true := fun j v e => hf j v (by simpa using e)
  exact keys_vals0 r hl hf
theorem collect_src {A : Around} {x : V} {xs : List V} {u : Value} {Q : List Value → Shared → Prop} (hh : A.handled = none) (I : Inv X pins σ H s) (r : RelV x u) (h : Src X.K H x xs)
    (hQ : ∀ (h' : Heap) (tk : Nat) (us : List Value), (∀ b o, s.heap.get? b = some o → h'.get? b = some o) → Vals xs us → xs.length ≤ sizeLine → Q us { s with heap := h', toks := tk }) : wpAny (model X.prog X.w) A (collect u) Q E s := by
  obtain ⟨a, rfl, h⟩ := h
  cases r
  rcases h with (h | h) | ⟨kvs, hd, rfl⟩
  · obtain ⟨its, rv, hl, hz⟩ := I.list h
    obtain ⟨o, n, e, c, hd, d⟩ := hl
    exact wpAny_collect_seq a (.inl rfl) e c d (fun h' hk => by simpa using hQ h' s.toks its hk rv hz) (by rw [List.size_toArray, ← rv.length]; exact hz)
  · obtain ⟨its, rv, ht, hz⟩ := I.tuple h
    obtain ⟨o, e, c, n, d⟩ := ht
    exact wpAny_collect_seq a (.inr rfl) e c d (fun h' hk => by simpa using hQ h' s.toks its hk rv hz) (by rw [List.size_toArray, ← rv.length]; exact hz)
  · obtain ⟨z, lo, vs, rel, dd⟩ := dk_rd I.hok hd
    obtain ⟨ep, hat⟩ := dd.dictAt
    have hl : kvs.length = vs.length := Paired.length rel
    refine PySem.W.kdu_collect (PySem.W.kdl_dict (knd := mixKind X.prog X.w) (kvs := vs) (ep := ep) lo) hh hat (by omega) fun h' tk acc hk hacc => ?_
    exact hQ h' tk acc.toList hk (keys_vals (X := X) rel hacc) (by simpa using z)

theorem backV_eq {a : Addr} : bv (.ref a) = .ref a := rfl
/-- sorted(x), ints or tuples of ints: k their keys -/
def rSorted (K : PySem.W.Frag) : List V → Hp → VK → Prop := fun vs H Q => ∃ (x : V) (xs : List V) (k : V → List Int), vs = [x] ∧ Src K H x xs ∧
  ((∀ y ∈ xs, ∃ n, y = .int n ∧ k y = [n]) ∨ (∀ y ∈ xs, ∃ t, y = .ref t ∧ SqT K H t ((k y).map V.int))) ∧
  ∀ ys p, SrtO.Srtd (fun a b => HT.lexLt (k a) (k b)) ys → SrtO.Stb (fun a b => HT.lexLt (k a) (k b)) ys xs → H p = none → Q (.ref p) (upd H p (.lst ys))
theorem cr_sorted (hc : X.calm = true) (hu : X.A.units + 3 < cLine) : CallR X (.builtin "sorted") (rSorted X.K) := by
  intro pins s σ H vs us Q I r h
  obtain ⟨x, xs, k, rfl, hsrc, hk, q⟩ := h
  obtain ⟨u, rfl, ru⟩ := vals1 r
  refine Calls.call_function_entry PyProof.Rows.kind_sorted PyProof.Rows.plain_sorted PyProof.Rows.entry_sorted (PyProof.Rows.args_sorted1 _) ?_
  unfold Builtin.«sorted»
  refine wpAny_bind (m := checkCount "sorted" 1 1 _) (wpAny_pure ?_)
  refine wpAny_bind (collect_src (A := X.A.in1) (I.ok.hd hc) I ru hsrc fun h' tk its kp rv hz => ?_)
  have I1 : Inv X pins σ H { s with heap := h', toks := tk } := I.kept kp
  have hzi : its.length ≤ sizeLine := by rw [← rv.length]; exact hz
  have hir : ∀ y ∈ xs, IR y := fun y hy => by
    rcases hk with hk | hk
    · obtain ⟨n, e, _⟩ := hk y hy; exact .inl ⟨n, e⟩
    · obtain ⟨t, e, _⟩ := hk y hy; exact .inr ⟨t, e⟩
  obtain ⟨e1, e2⟩ := bv_back rv hir
  refine wpAny_bind (wpAny_newList ?_ hzi)
  have hoL : (h'.push (seqObj "list" its.toArray 0)).get? h'.objs.size = some (seqObj "list" its.toArray 0) := Heap.get?_push_size _ rfl
  show wpAny _ _ _ _ _ { s with heap := h'.push (seqObj "list" its.toArray 0), toks := tk }
  have hS : 2 ≤ its.length → SrtO.SortableO X.prog X.w X.A.in1.in1 { s with heap := h'.push (seqObj "list" its.toArray 0), toks := tk } h'.objs.size its fun v u => HT.lexLt (k (bv v)) (k (bv u)) := fun h2 => by
    rcases hk with hk | hk
    · refine ZS.int_sortable (k := fun v => k (bv v)) (fun v hv => ?_) h2
      have hm : bv v ∈ xs := by rw [e1]; exact List.mem_map.mpr ⟨v, hv, rfl⟩
      obtain ⟨n, en, ek⟩ := hk _ hm
      have r := e2 v hv
      rw [en] at r
      obtain ⟨t, rfl⟩ := r
      exact ⟨n, t, rfl, by rw [en] at ek; rw [en]; exact ek⟩
    · refine ZS.it_sortable (k := fun v => k (bv v)) (fun e => by rw [e] at h2; simp at h2) (by show X.A.units + 1 + 1 + 1 < cLine; omega) (fun v hv => ?_) (fun o ho => ?_)
      · have hm : bv v ∈ xs := by rw [e1]; exact List.mem_map.mpr ⟨v, hv, rfl⟩
        obtain ⟨t, en, hq⟩ := hk _ hm
        have r := e2 v hv
        rw [en] at r
        cases r
        obtain ⟨jts, r1, p1, _⟩ := I1.tuple hq
        obtain ⟨o, eo, c, n, d⟩ := p1
        exact ⟨t, o, jts.toArray, n, rfl, Heap.get?_push_of_some _ eo, c, d, by simpa using intsAre_of r1⟩
      · rw [hoL] at ho
        cases ho
        show Value.type "list" ≠ _
        decide
  refine wpAny_bind (wpAny_holding (wpAny_call_entry PyProof.Rows.slot_list_sort ⟨_, hoL, rfl⟩ PyProof.Rows.entry_list_sort
    (SrtO.list_sort_ord (s := { s with heap := h'.push (seqObj "list" its.toArray 0), toks := tk }) (ZS.swo_lexk fun v => k (bv v)) hoL hzi hS fun out g1 g2 => ⟨_, rfl, ?_⟩) (PyProof.Rows.args_list_sort _)))
  obtain ⟨e', he'⟩ := PyProof.Rows.sortedHeap_at (vs := its) (out := out.toArray) hoL
  have hb : SrtO.Stb (fun a b => HT.lexLt (k a) (k b)) (out.map bv) xs := by
    rw [e1]
    exact SrtO.Stb.map (ZS.swo_lexk k) bv g2
  have h3 : ∀ u ∈ out, RelV (bv u) u := fun u hu => e2 u (g2.perm.mem_iff.mp hu)
  have hlen : (out.map bv).length ≤ sizeLine := by rw [hb.len]; exact hz
  refine wpAny_pure ⟨_, rfl, .ref h'.objs.size, upd H h'.objs.size (.lst (out.map bv)), I1.laid (t' := tk) (fun b u e => ?_) (Nat.le_refl _)
    (show ObjOk X.prog X.w _ _ _ (.lst (out.map bv)) from ⟨hlen, out, e', vals_bv h3, he'⟩), rfl, q _ _ (SrtO.srtd_map g1) hb (I1.hok.fresh (Nat.le_refl _))⟩
  have hb : b < h'.objs.size := Heap.lt_size e
  rw [PyProof.Rows.sortedHeap_old (Nat.ne_of_lt hb) (by rw [size_push']; exact Nat.lt_succ_of_lt hb)]
  exact Heap.get?_push_of_some _ e
end
end Z

set_option Elab.async false
set_option linter.all false
set_option maxRecDepth 100000
set_option maxHeartbeats 4000000
/-! Z12: sorted over trees; sum of lists; list(range), tuple(range). -/
namespace Z
open PySem PySem.Spec PyProof.Rows L2

section sort
variable {α : Type} {lt : α → α → Bool}
def ins (lt : α → α → Bool) (x : α) : List α → List α
  | [] => [x]
  | y :: l => if lt y x = true then y :: ins lt x l else x :: y :: l
def isort (lt : α → α → Bool) : List α → List α
  | [] => []
  | x :: l => ins lt x (isort lt l)
theorem ins_perm (x : α) : ∀ l, (ins lt x l).Perm (x :: l)
  | [] => List.Perm.refl _
  | y :: l => by
    unfold ins
    split
    · exact ((ins_perm x l).cons y).trans (List.Perm.swap x y l)
    · exact List.Perm.refl _
theorem isort_perm : ∀ l : List α, (isort lt l).Perm l
  | [] => List.Perm.refl _
  | x :: l => (ins_perm x _).trans ((isort_perm l).cons x)
theorem ins_srtd (O : SrtO.Swo lt) (x : α) : ∀ {l}, SrtO.Srtd lt l → SrtO.Srtd lt (ins lt x l)
  | [], _ => List.pairwise_singleton _ _
  | y :: l, h => by
    have h1 := List.pairwise_cons.mp h
    unfold ins
    split
    · rename_i hyx
      refine List.pairwise_cons.mpr ⟨fun z hz => ?_, ins_srtd O x h1.2⟩
      rcases List.mem_cons.mp ((ins_perm x l).mem_iff.mp hz) with e | hz
      · rw [e]; exact O.asym y x hyx
      · exact h1.1 z hz
    · rename_i hyx
      have hyx : lt y x = false := by simpa using hyx
      refine List.pairwise_cons.mpr ⟨fun z hz => ?_, h⟩
      rcases List.mem_cons.mp hz with e | hz
      · rw [e]; exact hyx
      · exact O.tr x y z hyx (h1.1 z hz)
theorem isort_srtd (O : SrtO.Swo lt) : ∀ l : List α, SrtO.Srtd lt (isort lt l)
  | [] => List.Pairwise.nil
  | x :: l => ins_srtd O x (isort_srtd O l)
theorem srtd_uniq : ∀ {l m : List α}, (∀ x ∈ l, ∀ y ∈ l, lt x y = false → lt y x = false → x = y) → l.Perm m → SrtO.Srtd lt l → SrtO.Srtd lt m → l = m
  | [], m, _, p, _, _ => by rw [List.nil_perm.mp p]
  | x :: l, [], _, p, _, _ => by have := p.length_eq; cases this
  | x :: l, y :: m, ha, p, h1, h2 => by
    have g1 := List.pairwise_cons.mp h1
    have g2 := List.pairwise_cons.mp h2
    have hy : y ∈ x :: l := p.mem_iff.mpr (List.mem_cons_self ..)
    have hx : x ∈ y :: m := p.mem_iff.mp (List.mem_cons_self ..)
    have e : x = y := by
      rcases List.mem_cons.mp hy with e | hy'
      · exact e.symm
      · rcases List.mem_cons.mp hx with e | hx'
        · exact e
        · exact ha x (List.mem_cons_self ..) y hy (g2.1 x hx') (g1.1 y hy')
    subst e
    rw [srtd_uniq (fun a ha' b hb => ha a (List.mem_cons_of_mem _ ha') b (List.mem_cons_of_mem _ hb)) (List.Perm.cons_inv p) g1.2 g2.2]
end sort
theorem lex_anti : ∀ {a b : List Int}, HT.lexLt a b = false → HT.lexLt b a = false → a = b
  | [], [], _, _ => rfl
  | [], _ :: _, h, _ => by cases h
  | _ :: _, [], _, h => by cases h
  | x :: a, y :: b, h1, h2 => by
    rw [HT.lexLt_cons] at h1 h2
    by_cases e : x = y
    · subst e
      rw [if_pos rfl] at h1 h2
      rw [lex_anti h1 h2]
    · rw [if_neg e] at h1
      rw [if_neg fun z => e z.symm] at h2
      have a1 := of_decide_eq_false h1
      have a2 := of_decide_eq_false h2
      omega
/-! ### keys of trees -/
def keyL : T → List Int
  | .int n => [n]
  | .tup ts => (intsT ts).getD []
  | _ => []
def isIntT : T → Bool
  | .int _ => true
  | _ => false
def isITup : T → Bool
  | .tup ts => (intsT ts).isSome
  | _ => false
def okS (us : List T) : Bool := us.all isIntT || us.all isITup
def ltT (t u : T) : Bool := HT.lexLt (keyL t) (keyL u)
/-- the members in sequence -/
def sortTs (us : List T) : List T := isort ltT us
theorem swo_ltT : SrtO.Swo ltT := ZS.swo_lexk keyL
/-- what sorted walks -/
@[simp] def srcT (c : T) : Option (List T) := match c with
  | .dic ks _ => some (ks.map kT)
  | c => seqT c
@[simp] def oSorted (ts : List T) (P : T → Md → Prop) : Prop := match ts with
  | [c] => (match srcT c with
    | some us => okS us = true ∧ P (.lst (sortTs us)) .ow
    | none => False)
  | _ => False
section
variable {K : PySem.W.Frag} {Hs H : Hp}
theorem RL.perm {vs vs' : List V} (p : vs'.Perm vs) : ∀ {ts : List T}, RL K Hs ts vs → ∃ ts', ts'.Perm ts ∧ RL K Hs ts' vs' := by
  induction p with
  | nil => exact fun h => ⟨_, List.Perm.refl _, h⟩
  | @cons x l₁ l₂ _ ih =>
    intro ts h
    cases ts with
    | nil => have := RL.nil.mp h; cases this
    | cons t ts =>
      obtain ⟨v, r, e, h1, h2⟩ := RL.cons.mp h
      cases e
      obtain ⟨ts', p', r'⟩ := ih h2
      exact ⟨t :: ts', p'.cons t, RL.cons.mpr ⟨_, _, rfl, h1, r'⟩⟩
  | @swap x y l =>
    intro ts h
    match ts, h with
    | [], h => have := RL.nil.mp h; cases this
    | [t], h =>
      obtain ⟨v, r, e, h1, h2⟩ := RL.cons.mp h
      cases e
      have := RL.nil.mp h2; cases this
    | t :: u :: ts, h =>
      obtain ⟨v, r, e, h1, h2⟩ := RL.cons.mp h
      cases e
      obtain ⟨v, r, e, h3, h4⟩ := RL.cons.mp h2
      cases e
      exact ⟨u :: t :: ts, List.Perm.swap .., RL.cons.mpr ⟨_, _, rfl, h3, RL.cons.mpr ⟨_, _, rfl, h1, h4⟩⟩⟩
  | trans _ _ ih1 ih2 =>
    intro ts h
    obtain ⟨ts1, p1, r1⟩ := ih2 h
    obtain ⟨ts2, p2, r2⟩ := ih1 r1
    exact ⟨ts2, p2.trans p1, r2⟩
/-- the key of a value, by the heap -/
noncomputable def kkV (H : Hp) : V → List Int
  | .int n => [n]
  | .ref a => match H a with
    | some (.tup vs) => vs.map fun v => match v with | .int n => n | _ => 0
    | _ => []
  | _ => []
theorem kk_eq {t : T} {v : V} (l : Le Hs H) (h : isIntT t = true ∨ isITup t = true) (r : R K Hs t v) : kkV H v = keyL t := by
  cases t <;> first | (simp [isIntT, isITup] at h; done) | skip
  · rw [R.int.mp r]; rfl
  · rename_i us
    simp only [R] at r
    obtain ⟨a, vs, rfl, q, rl⟩ := r
    simp only [isIntT, isITup, Bool.false_eq_true, false_or] at h
    cases e : intsT us with
    | none => rw [e] at h; cases h
    | some ns =>
      have eu := intsT_some e
      subst eu
      have ev := rl.ints
      subst ev
      simp only [kkV, l _ _ q, keyL, e, Option.getD_some, List.map_map]
      conv => rhs; rw [← List.map_id ns]
      rfl
theorem RL.srtd {lt : List Int → List Int → Bool} {k : V → List Int} {kt : T → List Int} : ∀ {ts : List T} {vs : List V}, RL K Hs ts vs → (∀ t ∈ ts, ∀ v, R K Hs t v → k v = kt t) → SrtO.Srtd (fun a b => lt (k a) (k b)) vs → SrtO.Srtd (fun a b => lt (kt a) (kt b)) ts
  | [], _, _, _, _ => List.Pairwise.nil
  | t :: ts, vs, h, hk, hs => by
    obtain ⟨v, r, rfl, h1, h2⟩ := RL.cons.mp h
    have g := List.pairwise_cons.mp hs
    refine List.pairwise_cons.mpr ⟨fun u hu => ?_, RL.srtd h2 (fun u hu => hk u (List.mem_cons_of_mem _ hu)) g.2⟩
    obtain ⟨i, hi, e⟩ := List.getElem_of_mem hu
    obtain ⟨w, ew, rw'⟩ := h2.get (by rw [List.getElem?_eq_getElem hi, e])
    have this : lt (k w) (k v) = false := g.1 w (List.mem_of_getElem? ew)
    show lt (kt u) (kt t) = false
    rw [hk t (List.mem_cons_self ..) v h1, hk u (List.mem_cons_of_mem _ hu) w rw'] at this
    exact this
theorem RL.mem {ts : List T} {vs : List V} (h : RL K Hs ts vs) {v : V} (hv : v ∈ vs) : ∃ t ∈ ts, R K Hs t v := by
  obtain ⟨i, hi, e⟩ := List.getElem_of_mem hv
  have hl := h.length
  have ht : ts[i]? = some (ts[i]'(by omega)) := List.getElem?_eq_getElem _
  obtain ⟨w, ew, r⟩ := h.get ht
  rw [List.getElem?_eq_getElem hi, e] at ew
  cases ew
  exact ⟨_, List.getElem_mem _, r⟩
theorem okS_anti {us : List T} (h : okS us = true) : ∀ x ∈ us, ∀ y ∈ us, ltT x y = false → ltT y x = false → x = y := by
  intro x hx y hy h1 h2
  have e := lex_anti h1 h2
  unfold okS at h
  rw [Bool.or_eq_true] at h
  rcases h with h | h
  · have a := List.all_eq_true.mp h x hx
    have b := List.all_eq_true.mp h y hy
    cases x <;> first | (simp [isIntT] at a; done) | skip
    cases y <;> first | (simp [isIntT] at b; done) | skip
    simp only [keyL, List.cons.injEq, and_true] at e
    rw [e]
  · have a := List.all_eq_true.mp h x hx
    have b := List.all_eq_true.mp h y hy
    cases x <;> first | (simp [isITup] at a; done) | skip
    cases y <;> first | (simp [isITup] at b; done) | skip
    rename_i ts us
    simp only [isITup] at a b
    cases e1 : intsT ts with
    | none => rw [e1] at a; cases a
    | some ns =>
      cases e2 : intsT us with
      | none => rw [e2] at b; cases b
      | some ms =>
        simp only [keyL, e1, e2, Option.getD_some] at e
        rw [intsT_some e1, intsT_some e2, e]
theorem okS_each {us : List T} (h : okS us = true) : ∀ t ∈ us, isIntT t = true ∨ isITup t = true := fun t ht => by
  unfold okS at h
  rw [Bool.or_eq_true] at h
  rcases h with h | h
  · exact .inl (List.all_eq_true.mp h t ht)
  · exact .inr (List.all_eq_true.mp h t ht)
theorem RL.keys : ∀ {ks : List Key}, RL K Hs (ks.map kT) (ks.map kV)
  | [] => RL.nil.mpr rfl
  | k :: ks => RL.cons.mpr ⟨_, _, rfl, by cases k <;> simp [kT, kV, R], RL.keys⟩
theorem src_ok {c : T} {us : List T} {x : V} (l : Le Hs H) (h : Vw K Hs H c x) (e : srcT c = some us) : ∃ xs, Src K H x xs ∧ RL K Hs us xs := by
  have go : seqT c = some us → ∃ xs, Src K H x xs ∧ RL K Hs us xs := fun e => by
    obtain ⟨a, vs, rfl, q, r⟩ := h.seq l e
    exact ⟨vs, ⟨a, rfl, .inl q⟩, r⟩
  cases c <;> first | exact go e | skip
  rename_i ks ts
  cases e
  obtain ⟨a, o, vs, rfl, q, ⟨kv, rfl, e1, e2⟩, r⟩ := h.dic l
  refine ⟨ks.map kV, ⟨a, rfl, .inr ⟨kv, .inl q, ?_⟩⟩, RL.keys⟩
  rw [← e1, List.map_map]; rfl
theorem ops_sorted : OpS K oSorted (rSorted K) := by
  intro E Hs H σ τ tmp ts vs P Q I vw h k
  unfold oSorted at h
  split at h
  · rename_i c
    obtain ⟨x, rfl, hx⟩ := vw.one
    split at h
    · rename_i us es
      obtain ⟨ok, p⟩ := h
      obtain ⟨xs, hs, rl⟩ := src_ok I.le hx es
      refine ⟨x, xs, kkV H, rfl, hs, ?_, fun ys p' hys hst hp => ?_⟩
      · unfold okS at ok
        rw [Bool.or_eq_true] at ok
        rcases ok with ok | ok
        · refine .inl fun y hy => ?_
          obtain ⟨t, ht, r⟩ := rl.mem hy
          have a := List.all_eq_true.mp ok t ht
          cases t <;> first | (simp [isIntT] at a; done) | skip
          rename_i n
          have := R.int.mp r
          subst this
          exact ⟨n, rfl, rfl⟩
        · refine .inr fun y hy => ?_
          obtain ⟨t, ht, r⟩ := rl.mem hy
          have a := List.all_eq_true.mp ok t ht
          have e := kk_eq I.le (.inr a) r
          cases t <;> first | (simp [isITup] at a; done) | skip
          rename_i us'
          simp only [R] at r
          obtain ⟨b, ws, rfl, q, rl'⟩ := r
          simp only [isITup] at a
          cases e2 : intsT us' with
          | none => rw [e2] at a; cases a
          | some ns =>
            have eu := intsT_some e2
            subst eu
            refine ⟨b, rfl, ?_⟩
            rw [e]
            simp only [keyL, e2, Option.getD_some]
            rw [← rl'.ints]
            exact SqT.of (I.le _ _ q)
      · obtain ⟨us', pp, rl'⟩ := rl.perm hst.perm
        have each : ∀ t ∈ us', isIntT t = true ∨ isITup t = true := fun t ht => okS_each ok t (pp.mem_iff.mp ht)
        have st : SrtO.Srtd ltT us' := rl'.srtd (fun t ht v r => kk_eq I.le (each t ht) r) hys
        have e : us' = sortTs us := srtd_uniq (fun a ha b hb => okS_anti ok a (pp.mem_iff.mp ha) b (pp.mem_iff.mp hb)) (pp.trans (isort_perm us).symm) st (isort_srtd swo_ltT us)
        rw [e] at rl'
        exact k _ _ _ _ _ (I.lstNew hp rl') p
    · exact h.elim
  · exact h.elim
end
end Z

set_option Elab.async false
set_option linter.all false
set_option maxRecDepth 100000
set_option maxHeartbeats 4000000
/-! Z13: sum(lists, []); list(range), tuple(range). -/
namespace ZM
open PySem PySem.Spec PyProof.Rows
theorem args_sum2 (a b : Value) : argsOk "sum" ⟨[a, b], []⟩ := by unfold argsOk; kernel_rfl
theorem sub_list_str : isSubtype (.type "list") (.type "str") = pure false := by rw [isSubtype_type]; kernel_rfl
theorem sub_list_bytes : isSubtype (.type "list") (.type "bytes") = pure false := by rw [isSubtype_type]; kernel_rfl
theorem sub_list_bytearray : isSubtype (.type "list") (.type "bytearray") = pure false := by rw [isSubtype_type]; kernel_rfl
/-- a list of these values, plainly -/
def PL (h : Heap) (v : Value) (xs : List Value) : Prop := ∃ a n, v = .ref a ∧ h.get? a = some { cls := .type "list", data := .seq xs.toArray n }
theorem PL.keeps {h h' : Heap} {v : Value} {xs : List Value} (k : ∀ b o, h.get? b = some o → (∀ S : List Value, True) → h'.get? b = some o) (p : PL h v xs) : PL h' v xs := by
  obtain ⟨a, n, e, g⟩ := p
  exact ⟨a, n, e, k a _ g fun _ => True.intro⟩
section
variable {prog : Program} {w : World} {A : Around} {R : Result → Shared → Prop}
theorem sum_loop (hh : A.handled = none) {I S L : Addr} {us : List Value} {zs : List (List Value)} (hIS : I ≠ S) (hz : zs.flatten.length ≤ sizeLine) (hl : zs.length = us.length) :
    ∀ (k i : Nat) (s : Shared) (t : Addr) (acc : List Value) (c n : Nat), us.length - i = k → i ≤ us.length → s.heap.IsListIter I L i → s.heap.IsList L us.toArray → L ≠ S →
    (∀ (j : Nat) v xs, us[j]? = some v → zs[j]? = some xs → ∃ a n, v = .ref a ∧ a ≠ I ∧ a ≠ S ∧ s.heap.get? a = some { cls := .type "list", data := .seq xs.toArray n }) → t ≠ I → t ≠ S →
    s.heap.get? t = some { cls := .type "list", data := .seq acc.toArray n } → acc.length + (zs.drop i).flatten.length ≤ sizeLine →
    s.heap.get? S = some { cls := .type "list", dict := none, data := .seq #[.ref t] c, slots := #[] } →
    (∀ h' tk t' n', (∀ b o, b ≠ I → b ≠ S → s.heap.get? b = some o → h'.get? b = some o) → (i = us.length → t' = t) → (i < us.length → s.heap.objs.size ≤ t') →
      h'.get? t' = some { cls := .type "list", data := .seq (acc ++ (zs.drop i).flatten).toArray n' } → R (.ok (.ret (.ref t'))) { s with heap := h', toks := tk }) →
    codeAny (model prog w) A (.builtin "sum.loop" ⟨[.ref I, .ref S, rawInt 2, rawInt 0], []⟩) R s := by
  intro k
  induction k with
  | zero =>
    intro i s t acc c n hk hi hst hL hLS hus htI htS ht hfit hS hR
    have hin : i = us.length := by omega
    subst hin
    refine codeAny_builtin F.entry_sum_loop ?_
    rw [Around.under_plainId F.plain_sum_loop _]
    show wpAny _ A.in1 (seqItems? (.ref S) >>= _) _ _ s
    refine wpAny_bind (wpAny_seqItems hS rfl ?_)
    show wpAny _ A.in1 (tryCatch (pyNext (.ref I)) _ >>= _) _ _ s
    refine wpAny_bind (wpAny_tryCatch (wpAny_pyNext_list_end (show A.in1.handled = none from hh) hst hL (by simp) fun h' eb => ?_))
    refine wpAny_pure (hR h' s.toks t n (fun b o hb _ e => eb b o hb e) (fun _ => rfl) (fun h => absurd h (Nat.lt_irrefl _)) ?_)
    rw [← hl, List.drop_length, List.flatten_nil, List.append_nil]
    exact eb t _ htI ht
  | succ k ih =>
    intro i s t acc c n hk hi hst hL hLS hus htI htS ht hfit hS hR
    have hlt : i < us.length := by omega
    refine codeAny_builtin F.entry_sum_loop ?_
    rw [Around.under_plainId F.plain_sum_loop _]
    show wpAny _ A.in1 (seqItems? (.ref S) >>= _) _ _ s
    refine wpAny_bind (wpAny_seqItems hS rfl ?_)
    show wpAny _ A.in1 (tryCatch (pyNext (.ref I)) _ >>= _) _ _ s
    have eu : us[i]? = some us[i] := List.getElem?_eq_getElem hlt
    have hzi : i < zs.length := by omega
    have ez : zs[i]? = some zs[i] := List.getElem?_eq_getElem hzi
    have hdrop : zs.drop i = zs[i] :: zs.drop (i + 1) := List.drop_eq_getElem_cons hzi
    refine wpAny_bind (wpAny_tryCatch (wpAny_pyNext_list_item hst hL (x := us[i]) (by simpa using eu) fun h1 hst1 sb => ?_))
    obtain ⟨a, na, ea, haI, haS, ga⟩ := hus i _ _ eu ez
    rw [ea]
    have hS1 : h1.get? S = _ := (sb.2 S hIS.symm).trans hS
    have ht1 : h1.get? t = _ := (sb.2 t htI).trans ht
    have ga1 : h1.get? a = _ := (sb.2 a haI).trans ga
    have hlen : acc.length + zs[i].length ≤ sizeLine := by
      rw [hdrop, List.flatten_cons, List.length_append] at hfit; omega
    show wpAny _ A.in1 ((holding [.ref a] (binaryOp .Add (.ref t) (.ref a))).attempt >>= _) _ _ _
    refine wpAny_bind (wpAny_attempt (wpAny_holding (PySem.P.add_list (s := { s with heap := h1 }) ht1 ga1 ?_ (by rw [List.size_toArray, List.size_toArray]; exact hlen))))
    have e1 : acc.toArray ++ zs[i].toArray = (acc ++ zs[i]).toArray := by simp
    rw [e1]
    show wpAny _ A.in1 (updateSeq S (fun _ => #[.ref h1.objs.size]) >>= _) _ _ _
    generalize hh2 : h1.push { cls := .type "list", data := .seq (acc ++ zs[i]).toArray } = h2
    have k2 : ∀ b o, h1.get? b = some o → h2.get? b = some o := fun b o e => by rw [← hh2]; exact Heap.get?_push_of_some _ e
    have hS2 : h2.get? S = _ := k2 S _ hS1
    have g2 : h2.get? h1.objs.size = some { cls := .type "list", data := .seq (acc ++ zs[i]).toArray } := by rw [← hh2]; exact Heap.get?_push_size _ rfl
    refine wpAny_bind (wpAny_updateSeq (s := { s with heap := h2 }) hS2 rfl ?_ (by show 1 ≤ sizeLine; decide) (by show 1 ≤ sizeLine + 1; decide))
    refine wpAny_bind (wpAny_letGo ?_)
    have kS : ∀ b o, b ≠ S → h2.get? b = some o → (h2.update S (Obj.mapSeq fun _ => #[.ref h1.objs.size])).get? b = some o := fun b o hb e => (Heap.get?_update_other _ _ (Ne.symm hb)).trans e
    have k3 : ∀ b o, b ≠ I → b ≠ S → s.heap.get? b = some o → (h2.update S (Obj.mapSeq fun _ => #[.ref h1.objs.size])).get? b = some o := fun b o hI hS' e => kS b o hS' (k2 b o ((sb.2 b hI).trans e))
    have szI : h1.objs.size = s.heap.objs.size := sb.1
    have hIlt : I < h1.objs.size := by obtain ⟨o, e, _⟩ := hst1; exact Heap.lt_size e
    have hSlt : S < h1.objs.size := Heap.lt_size hS1
    refine wpAny_bind (wpAny_updateSeq (s := { s with heap := h2.update S (Obj.mapSeq fun _ => #[.ref h1.objs.size]) }) (Heap.get?_update_self _ hS2 rfl) rfl ?_ (by show 1 ≤ sizeLine; decide) (by show 1 ≤ sizeLine + 1; decide))
    generalize hh4 : (h2.update S (Obj.mapSeq fun _ => #[.ref h1.objs.size])).update S (Obj.mapSeq fun _ => #[.ref h1.objs.size]) = h4
    have kS4 : ∀ b o, b ≠ S → h2.get? b = some o → h4.get? b = some o := fun b o hb e => by rw [← hh4]; exact (Heap.get?_update_other _ _ (Ne.symm hb)).trans (kS b o hb e)
    have k4 : ∀ b o, b ≠ I → b ≠ S → s.heap.get? b = some o → h4.get? b = some o := fun b o hI hS' e => kS4 b o hS' (k2 b o ((sb.2 b hI).trans e))
    refine wpAny_pure ⟨plainId_quiet F.plain_sum_loop _, ih (i + 1) { s with heap := h4 } h1.objs.size (acc ++ zs[i]) _ 0 (by omega) hlt ?_ ?_ hLS ?_ (Nat.ne_of_gt hIlt) (Nat.ne_of_gt hSlt) (kS4 _ _ (Nat.ne_of_gt hSlt) g2) ?_ (by rw [← hh4]; exact Heap.get?_update_self _ (Heap.get?_update_self _ hS2 rfl) rfl) fun h' tk t' n' hk' he1 he2 hg => ?_⟩
    · exact hst1.at fun o e => kS4 I o hIS (k2 I o e)
    · obtain ⟨o, e, c, n, d⟩ := hL
      have hLI : L ≠ I := fun z => by
        subst z
        obtain ⟨o2, e2, c2, _⟩ := hst
        rw [e] at e2; cases e2
        rw [c] at c2
        exact absurd c2 (by decide)
      exact ⟨o, k4 L o hLI hLS e, c, n, d⟩
    · intro j v xs hv hx
      obtain ⟨b, nb, eb, hbI, hbS, gb⟩ := hus j v xs hv hx
      exact ⟨b, nb, eb, hbI, hbS, k4 b _ hbI hbS gb⟩
    · rw [hdrop, List.flatten_cons, List.length_append] at hfit
      rw [List.length_append]; omega
    · have hsz4 : s.heap.objs.size ≤ h4.objs.size := by
        have : h1.objs.size < h4.objs.size := Heap.lt_size (kS4 _ _ (Nat.ne_of_gt hSlt) g2)
        omega
      refine hR h' tk t' n' (fun b o hI hS' e => hk' b o hI hS' (k4 b o hI hS' e)) (fun h => absurd h (Nat.ne_of_lt hlt)) (fun _ => ?_) ?_
      · by_cases hlast : i + 1 = us.length
        · rw [he1 hlast, szI]; exact Nat.le_refl _
        · have := he2 (by omega)
          exact Nat.le_trans hsz4 this
      · rw [hdrop, List.flatten_cons, ← List.append_assoc]
        exact hg

theorem call_sum_lists {E : Value → Shared → Prop} {s : Shared} (hh : A.handled = none) {L b : Addr} {us acc : List Value} {zs : List (List Value)} {n : Nat} {Q : Value → Shared → Prop} (hL : s.heap.IsList L us.toArray) (hl : zs.length = us.length)
    (hus : ∀ (j : Nat) v xs, us[j]? = some v → zs[j]? = some xs → ∃ a n, v = .ref a ∧ s.heap.get? a = some { cls := .type "list", data := .seq xs.toArray n }) (hb : s.heap.get? b = some { cls := .type "list", data := .seq acc.toArray n })
    (hz : acc.length + zs.flatten.length ≤ sizeLine)
    (h : ∀ h' tk t' n', (∀ b o, s.heap.get? b = some o → h'.get? b = some o) → (us = [] → t' = b) → (us ≠ [] → s.heap.objs.size ≤ t') → h'.get? t' = some { cls := .type "list", data := .seq (acc ++ zs.flatten).toArray n' } → Q (.ref t') { s with heap := h', toks := tk }) :
    wpAny (model prog w) A (call (.builtin "sum") [.ref L, .ref b]) Q E s := by
  refine call_function_tree F.kind_sum F.plain_sum F.entry_sum (args_sum2 _ _) ?_
  unfold Builtin.«sum»
  simp only [List.length_cons, List.length_nil]
  rw [if_neg (by decide)]
  refine wpAny_bind (wpAny_of_eq (show Builtin.Builtins.bindParams "sum" ["start"] 0 ⟨[.ref b], []⟩ = pure [some (.ref b)] from rfl) ?_)
  refine wpAny_bind (wpAny_pyIter_list hL ?_)
  refine wpAny_bind (wpAny_pure ?_)
  have hb1 : (s.heap.push { cls := .type "list_iterator", data := .fields #[.ref L, .int 0 0] }).get? b = some { cls := .type "list", data := .seq acc.toArray n } := Heap.get?_push_of_some _ hb
  have ty : ({ s with heap := s.heap.push { cls := .type "list_iterator", data := .fields #[.ref L, .int 0 0] } } : Shared).TypeIs (.ref b) "list" := ⟨_, hb1, rfl⟩
  simp only [List.forIn_cons, List.forIn_nil]
  refine wpAny_bind (wpAny_bind (wpAny_bind (wpAny_isInstance (T := "list") (b := false) ty sub_list_str ?_)))
  simp only [Bool.false_eq_true, if_false]
  refine wpAny_pure (wpAny_bind (wpAny_bind (wpAny_isInstance (T := "list") (b := false) ty sub_list_bytes ?_)))
  simp only [Bool.false_eq_true, if_false]
  refine wpAny_pure (wpAny_bind (wpAny_bind (wpAny_isInstance (T := "list") (b := false) ty sub_list_bytearray ?_)))
  simp only [Bool.false_eq_true, if_false]
  refine wpAny_pure (wpAny_pure ?_)
  refine wpAny_bind (wpAny_newObj_type ?_)
  generalize hh2 : (s.heap.push { cls := .type "list_iterator", data := .fields #[.ref L, .int 0 0] }).push { cls := .type "list", data := .seq [Value.ref b].toArray } = h2
  have k1 : ∀ b o, s.heap.get? b = some o → h2.get? b = some o := fun b o e => by rw [← hh2]; exact Heap.get?_push_of_some _ (Heap.get?_push_of_some _ e)
  have z1 : (s.heap.push { cls := .type "list_iterator", data := .fields #[.ref L, .int 0 0] }).objs.size = s.heap.objs.size + 1 := size_push' _ _
  have gI : h2.get? s.heap.objs.size = some { cls := .type "list_iterator", data := .fields #[.ref L, .int 0 0] } := by rw [← hh2]; exact Heap.get?_push_of_some _ (Heap.get?_push_size _ rfl)
  have gS : h2.get? (s.heap.objs.size + 1) = some { cls := .type "list", data := .seq [Value.ref b].toArray } := by rw [← hh2, ← z1]; exact Heap.get?_push_size _ rfl
  have hbl : b < s.heap.objs.size := Heap.lt_size hb
  have hLl : L < s.heap.objs.size := by obtain ⟨o, e, _⟩ := hL; exact Heap.lt_size e
  show wpAny _ A.in1 (pure _) _ _ { s with heap := h2 }
  rw [z1]
  refine wpAny_pure ⟨plainId_quiet F.plain_sum_loop _, sum_loop (A := A) hh (I := s.heap.objs.size) (S := s.heap.objs.size + 1) (L := L) (us := us) (zs := zs) (Nat.ne_of_lt (Nat.lt_succ_self _)) (by omega) hl us.length 0 { s with heap := h2 } b acc 0 n rfl (Nat.zero_le _) ⟨_, gI, rfl, rfl⟩ ?_ (Nat.ne_of_lt (Nat.lt_succ_of_lt hLl)) ?_ (Nat.ne_of_lt hbl) (Nat.ne_of_lt (Nat.lt_succ_of_lt hbl)) (k1 _ _ hb) (by simpa using hz) gS fun h' tk t' n' hk he1 he2 hg => ?_⟩
  · exact hL.at fun o e => k1 L o e
  · intro j v xs hv hx
    obtain ⟨a, n, ea, ga⟩ := hus j v xs hv hx
    have hal : a < s.heap.objs.size := Heap.lt_size ga
    exact ⟨a, n, ea, Nat.ne_of_lt hal, Nat.ne_of_lt (Nat.lt_succ_of_lt hal), k1 a _ ga⟩
  · refine h h' tk t' n' (fun c o e => ?_) (fun e => he1 (by rw [e]; rfl)) (fun e => ?_) hg
    · have hc := Heap.lt_size e
      exact hk c o (Nat.ne_of_lt hc) (Nat.ne_of_lt (Nat.lt_succ_of_lt hc)) (k1 c o e)
    · have := he2 (List.length_pos_iff.mpr e)
      have hz2 : h2.objs.size = s.heap.objs.size + 2 := by rw [← hh2, size_push', z1]
      have : h2.objs.size ≤ t' := this
      omega
end
end ZM
namespace Z
open PySem PySem.Spec PyProof.Rows L2
/-- sum(lists, start) -/
def rSumL : List V → Hp → VK → Prop := fun vs H Q => ∃ (L b : Addr) (us acc : List V) (zs : List (List V)), vs = [.ref L, .ref b] ∧ H L = some (.lst us) ∧ H b = some (.lst acc) ∧ zs.length = us.length ∧
  (∀ (j : Nat) v xs, us[j]? = some v → zs[j]? = some xs → ∃ a, v = .ref a ∧ H a = some (.lst xs)) ∧ acc.length + zs.flatten.length ≤ sizeLine ∧ (us = [] → Q (.ref b) H) ∧ ∀ p, H p = none → Q (.ref p) (upd H p (.lst (acc ++ zs.flatten)))
theorem vals_lists {X : Cx} {pins : List (Addr × Obj)} {σ : L2.St} {H : Hp} {s : Shared} (I : Inv X pins σ H s) : ∀ {us : List V} {its : List Value} {zs : List (List V)}, Vals us its → zs.length = us.length →
    (∀ (j : Nat) v xs, us[j]? = some v → zs[j]? = some xs → ∃ a, v = .ref a ∧ H a = some (.lst xs)) →
    ∃ ys : List (List Value), ys.length = its.length ∧ Vals zs.flatten ys.flatten ∧ ∀ (j : Nat) v xs, its[j]? = some v → ys[j]? = some xs → ∃ a n, v = .ref a ∧ s.heap.get? a = some { cls := .type "list", data := .seq xs.toArray n }
  | _, _, [], .nil, _, _ => ⟨[], rfl, .nil, fun j v xs e _ => by simp at e⟩
  | _, _, _ :: _, .nil, hl, _ => by cases hl
  | _, _, [], .cons _ _, hl, _ => by cases hl
  | u :: us, it :: its, z :: zs, .cons r t, hl, h => by
    obtain ⟨ys, h1, h2, h3⟩ := vals_lists I t (zs := zs) (by simpa using hl) fun j v xs e1 e2 => h (j + 1) v xs (by simpa using e1) (by simpa using e2)
    obtain ⟨a, ea, ha⟩ := h 0 u z rfl rfl
    subst ea
    cases r
    obtain ⟨hz, jts, n, rv, _, e⟩ := I.lstM ha
    refine ⟨jts :: ys, by simp [h1], by rw [List.flatten_cons, List.flatten_cons]; exact rv.append h2, fun j v xs e1 e2 => ?_⟩
    cases j with
    | zero =>
      have e1 : Value.ref a = v := by simpa using e1
      have e2 : jts = xs := by simpa using e2
      subst e1 e2
      exact ⟨a, n, rfl, e⟩
    | succ j => exact h3 j v xs (by simpa using e1) (by simpa using e2)
theorem cr_sumL {X : Cx} (hc : X.calm = true) : CallR X (.builtin "sum") rSumL := by
  intro pins s σ H vs us Q I r h
  obtain ⟨L, b, xs, acc, zs, rfl, hL, hb, hl, hx, hz, q1, q2⟩ := h
  obtain ⟨u1, u2, rfl, r1, r2⟩ := vals2 r
  cases r1
  cases r2
  obtain ⟨hz1, its, n, rv, el, e⟩ := I.lstM hL
  obtain ⟨hz2, jts, n2, rv2, el2, e2⟩ := I.lstM hb
  obtain ⟨ys, h1, h2, h3⟩ := vals_lists I rv hl hx
  have l2 := h2.length
  refine ZM.call_sum_lists (I.ok.hd hc) (us := its) (acc := jts) (zs := ys) ⟨_, e, rfl, n, rfl⟩ h1 h3 e2 (by rw [← el2, ← l2]; exact hz) fun h' tk t' n' hk he1 he2 hg => ?_
  have I1 : Inv X pins σ H { s with heap := h', toks := tk } := I.kept hk
  by_cases hn : xs = []
  · have hi : its = [] := List.eq_nil_of_length_eq_zero (by rw [← el, hn]; rfl)
    rw [he1 hi]
    exact ⟨.ref b, H, I1, rfl, q1 hn⟩
  · have hi : its ≠ [] := fun z => hn (List.eq_nil_of_length_eq_zero (by rw [el, z]; rfl))
    have hf : H t' = none := I.hok.fresh (he2 hi)
    refine ⟨.ref t', _, I.laid (t' := tk) (o := .lst (acc ++ zs.flatten)) hk (he2 hi) ⟨?_, _, n', rv2.append h2, hg⟩, rfl, q2 t' hf⟩
    rw [List.length_append]; exact hz
def listsT : List T → Option (List (List T))
  | [] => some []
  | .lst ts :: r => (listsT r).map (ts :: ·)
  | _ => none
@[simp] def wSumL (wa wb : WV) (τ : PSt) (Q : T → Md → PSt → Prop) : Prop := wa τ fun t τ1 => wb τ1 fun u τ2 => match t, u with
  | .lst us, .lst acc => (match listsT us with
    | some zs => acc.length + zs.flatten.length ≤ sizeLine ∧ Q (.lst (acc ++ zs.flatten)) .sh τ2
    | none => False)
  | _, _ => False
section
variable {K : PySem.W.Frag} {Hs H : Hp}
theorem lists_ok (l : Le Hs H) : ∀ {us : List T} {vs : List V} {zs : List (List T)}, listsT us = some zs → RL K Hs us vs → ∃ ws : List (List V), ws.length = vs.length ∧ RL K Hs zs.flatten ws.flatten ∧ ws.flatten.length = zs.flatten.length ∧
    ∀ (j : Nat) v xs, vs[j]? = some v → ws[j]? = some xs → ∃ a, v = .ref a ∧ H a = some (.lst xs)
  | [], _, zs, e, h => by
    cases e
    have := RL.nil.mp h
    subst this
    exact ⟨[], rfl, RL.nil.mpr rfl, rfl, fun j v xs e _ => by simp at e⟩
  | t :: us, _, zs, e, h => by
    obtain ⟨v, r, rfl, h1, h2⟩ := RL.cons.mp h
    cases t <;> first | (cases e; done) | skip
    rename_i ts
    cases e1 : listsT us with
    | none => simp only [listsT, e1] at e; cases e
    | some zs' =>
      simp only [listsT, e1, Option.map_some] at e
      cases e
      obtain ⟨ws, g1, g2, g4, g3⟩ := lists_ok l e1 h2
      simp only [R] at h1
      obtain ⟨a, xs, rfl, q, rl⟩ := h1
      refine ⟨xs :: ws, by simp [g1], by rw [List.flatten_cons, List.flatten_cons]; exact rl.append g2, by rw [List.flatten_cons, List.flatten_cons, List.length_append, List.length_append, rl.length, g4], fun j v ys e1 e2 => ?_⟩
      cases j with
      | zero =>
        have e1 : V.ref a = v := by simpa using e1
        have e2 : xs = ys := by simpa using e2
        subst e1 e2
        exact ⟨a, rfl, l _ _ q⟩
      | succ j => exact g3 j v ys (by simpa using e1) (by simpa using e2)
end
section
variable {X : Cx} {e e2 : Expr} {p pos : Pos} {wa wb : WV}
theorem le_sumL (hc : X.calm = true) (hg : Gl X "sum") (hm : X.mg "sum" = none) (ha : LV X e wa) (hb : LV X e2 wb) (hs1 : starEach [e, e2] X.env = (false, eval e X.env) :: starEach [e2] X.env := by rfl) (hs2 : starEach [e2] X.env = (false, eval e2 X.env) :: starEach [] X.env := by rfl)
    (hpl : (backTo pos (starEach [e2] X.env)).any (·.1) = false := by rfl) : LE X (.Call (.Name "sum" p) [e, e2] [] pos) (wSumL wa wb) :=
  PE.imp (pe_callB (cr_sumL hc) hg hm boot_sum (pa_cons ha (pa_cons hb pa_nil hs2) hs1) (by decide) (by decide) hs1 hpl) fun σ H Q hw => by
    obtain ⟨E, Hs, τ, tmp, PQ, I, hw, hq⟩ := hw
    refine ⟨E, Hs, τ, tmp, _, I, hw, fun Hs1 H1 τ1 t v I1 p1 => ?_⟩
    refine ⟨E, Hs1, τ1, _, _, I1, p1, fun Hs2 H2 τ2 u v' I2 p2 => ?_⟩
    split at p2
    · rename_i us acc
      split at p2
      · rename_i zs es
        obtain ⟨hz, p2⟩ := p2
        have r2 : R X.K Hs2 (.lst acc) v' := top1 I2
        have r1 : R X.K Hs2 (.lst us) v := top1 I2.pop
        have r2' := r2
        simp only [R] at r1 r2'
        obtain ⟨a, xs, rfl, q1, rl1⟩ := r1
        obtain ⟨b, ys, rfl, q2, rl2⟩ := r2'
        have I := I2.pop.pop
        obtain ⟨ws, g1, g2, g4, g3⟩ := lists_ok I.le es rl1
        refine ⟨a, b, xs, ys, ws, rfl, I.le _ _ q1, I.le _ _ q2, g1, g3, by rw [rl2.length, g4]; exact hz, fun hn => ?_, fun p' hp => ?_⟩
        · subst hn
          have hw : ws = [] := List.eq_nil_of_length_eq_zero g1
          subst hw
          have hzf : zs.flatten = [] := List.eq_nil_of_length_eq_zero (by rw [← g4]; rfl)
          rw [hzf, List.append_nil] at p2
          exact hq _ _ _ _ _ _ (I.push r2) p2
        · exact hq _ _ _ _ _ _ ((I.allocS hp).push (by simp only [R]; exact ⟨p', _, rfl, upd_same, (rl2.append g2).mono (Le.upd (I.news hp))⟩)) p2
      · exact p2.elim
    · exact p2.elim
end
end Z
namespace Z
open PySem PySem.Spec PyProof.Rows L2
section
variable {X : Cx} {e e2 : Expr} {p p2 pos pos2 : Pos} {wa wb : WV}
def rngTs (a b : Int) : List T := (List.range (b - a).toNat).map fun i => T.int (a + (i : Nat))
@[simp] def wRg1 (mk : List T → T) (m : Md) (wa : WV) (τ : PSt) (Q : T → Md → PSt → Prop) : Prop := wa τ fun t τ1 => match t with
  | .int n => RgOk 0 n ∧ Q (mk (rngTs 0 n)) m τ1
  | _ => False
@[simp] def wRg2 (mk : List T → T) (m : Md) (wa wb : WV) (τ : PSt) (Q : T → Md → PSt → Prop) : Prop := wa τ fun t τ1 => wb τ1 fun u τ2 => match t, u with
  | .int i, .int j => RgOk i j ∧ Q (mk (rngTs i j)) m τ2
  | _, _ => False
theorem RL.rng {K : PySem.W.Frag} {H : Hp} {a b : Int} : RL K H (rngTs a b) (rgV a b) := RL.map fun i => R.int.mpr rfl
theorem rg1_imp {K : PySem.W.Frag} {mk : List T → T} {m : Md} {te : TE} {P : Int → Int → Hp → VK → Prop} (h : ∀ σ H Q, tV K wa σ H Q → te σ H Q)
    (hP : ∀ E Hs H σ τ tmp a b (Q : VK) (PQ : T → Md → PSt → Prop), INV K E Hs H σ τ tmp → RgOk a b → PQ (mk (rngTs a b)) m τ → (∀ Hs' H' τ' t m v, INV K E Hs' H' σ τ' (tmp ++ [(v, t, m)]) → PQ t m τ' → Q v H') → P a b H Q) :
    ∀ σ H Q, tE K (wRg1 mk m wa) σ H Q → tRg1 te σ H fun a b H1 => P a b H1 Q := fun σ H Q hw => by
  obtain ⟨E, Hs, τ, tmp, PQ, I, hw, hq⟩ := hw
  refine h σ H _ ⟨E, Hs, τ, tmp, _, I, hw, fun Hs1 H1 τ1 t v I1 p1 => ?_⟩
  cases t <;> first | exact p1.elim | skip
  rename_i n
  have r := R.int.mp (show R K Hs1 (.int n) v from top1 I1)
  subst r
  exact ⟨n, rfl, hP E Hs1 H1 σ τ1 tmp 0 n Q PQ I1.pop p1.1 p1.2 hq⟩
theorem rg2_imp {K : PySem.W.Frag} {mk : List T → T} {m : Md} {te te2 : TE} {P : Int → Int → Hp → VK → Prop} (h : ∀ σ H Q, tV K wa σ H Q → te σ H Q) (h2 : ∀ σ H Q, tV K wb σ H Q → te2 σ H Q)
    (hP : ∀ E Hs H σ τ tmp a b (Q : VK) (PQ : T → Md → PSt → Prop), INV K E Hs H σ τ tmp → RgOk a b → PQ (mk (rngTs a b)) m τ → (∀ Hs' H' τ' t m v, INV K E Hs' H' σ τ' (tmp ++ [(v, t, m)]) → PQ t m τ' → Q v H') → P a b H Q) :
    ∀ σ H Q, tE K (wRg2 mk m wa wb) σ H Q → tRg2 te te2 σ H fun a b H1 => P a b H1 Q := fun σ H Q hw => by
  obtain ⟨E, Hs, τ, tmp, PQ, I, hw, hq⟩ := hw
  refine h σ H _ ⟨E, Hs, τ, tmp, _, I, hw, fun Hs1 H1 τ1 t v I1 p1 => ?_⟩
  refine h2 σ H1 _ ⟨E, Hs1, τ1, _, _, I1, p1, fun Hs2 H2 τ2 u v' I2 p2 => ?_⟩
  cases t <;> cases u <;> first | exact p2.elim | skip
  rename_i i j
  have r' := R.int.mp (show R K Hs2 (.int j) v' from top1 I2)
  have r := R.int.mp (show R K Hs2 (.int i) v from top1 I2.pop)
  subst r r'
  exact ⟨i, j, rfl, rfl, hP E Hs2 H2 σ τ2 tmp i j Q PQ I2.pop.pop p2.1 p2.2 hq⟩
theorem lst_P {K : PySem.W.Frag} : ∀ E Hs H σ τ tmp a b (Q : VK) (PQ : T → Md → PSt → Prop), INV K E Hs H σ τ tmp → RgOk a b → PQ (.lst (rngTs a b)) .ow τ → (∀ Hs' H' τ' t m v, INV K E Hs' H' σ τ' (tmp ++ [(v, t, m)]) → PQ t m τ' → Q v H') →
    (RgOk a b ∧ ∀ q, H q = none → Q (.ref q) (upd H q (.lst (rgV a b)))) := fun E Hs H σ τ tmp a b Q PQ I ok p hq => ⟨ok, fun q hn => hq _ _ _ _ _ _ (I.lstNew hn RL.rng) p⟩
theorem tup_P {K : PySem.W.Frag} : ∀ E Hs H σ τ tmp a b (Q : VK) (PQ : T → Md → PSt → Prop), INV K E Hs H σ τ tmp → RgOk a b → PQ (.tup (rngTs a b)) .sh τ → (∀ Hs' H' τ' t m v, INV K E Hs' H' σ τ' (tmp ++ [(v, t, m)]) → PQ t m τ' → Q v H') →
    (RgOk a b ∧ ∀ q, H q = none → Q (.ref q) (upd H q (.tup (rgV a b)))) := fun E Hs H σ τ tmp a b Q PQ I ok p hq => ⟨ok, fun q hn => hq _ _ _ _ _ _ (I.tupNew hn RL.rng) p⟩
theorem le_lstRg1 (hc : X.calm = true) (hg : Gl X "list") (hm : X.mg "list" = none) (hg2 : Gl X "range") (hm2 : X.mg "range" = none) (ha : LV X e wa) (na : starEach [e] X.env = (false, eval e X.env) :: starEach [] X.env := by rfl)
    (nb : starEach [.Call (.Name "range" p2) [e] [] pos2] X.env = (false, eval (.Call (.Name "range" p2) [e] [] pos2) X.env) :: starEach [] X.env := by rfl) :
    LE X (.Call (.Name "list" p) [.Call (.Name "range" p2) [e] [] pos2] [] pos) (wRg1 .lst .ow wa) := (pe_listRg hc hg hm (prg_1 hg2 hm2 ha na) nb).imp (rg1_imp (fun _ _ _ h => h) lst_P)
theorem le_tupRg1 (hc : X.calm = true) (hg : Gl X "tuple") (hm : X.mg "tuple" = none) (hg2 : Gl X "range") (hm2 : X.mg "range" = none) (ha : LV X e wa) (na : starEach [e] X.env = (false, eval e X.env) :: starEach [] X.env := by rfl)
    (nb : starEach [.Call (.Name "range" p2) [e] [] pos2] X.env = (false, eval (.Call (.Name "range" p2) [e] [] pos2) X.env) :: starEach [] X.env := by rfl) :
    LE X (.Call (.Name "tuple" p) [.Call (.Name "range" p2) [e] [] pos2] [] pos) (wRg1 .tup .sh wa) := (pe_tupRg hc hg hm (prg_1 hg2 hm2 ha na) nb).imp (rg1_imp (fun _ _ _ h => h) tup_P)
end
end Z

set_option Elab.async false
set_option linter.all false
set_option maxRecDepth 100000
set_option maxHeartbeats 4000000
/-! Z14: calls of defs; what a def promises; chains. -/
namespace Z
open PySem PySem.Spec PyProof.Rows L2

/-- what a def does, by trees: its arguments; the result and how one has it -/
abbrev PSp := List T → (T → Md → Prop) → Prop
/-- .. whose first argument is lent: its tree behind the call comes too -/
abbrev PSp1 := T → List T → (T → Md → T → Prop) → Prop
/-- the world behind a call: what stood stays, but the lent -/
structure Aft (K : PySem.W.Frag) (Hs H Hs' H' : Hp) (ln : Addr → Prop) (t : T) (m : Md) (v : V) : Prop where
  l1 : Le Hs Hs'
  l2 : Le Hs' H'
  kp : ∀ a o, H a = some o → ¬ ln a → H' a = some o
  ns : ∀ a o, H a = some o → Hs a = none → Hs' a = none
  res : (m = .sh ∧ R K Hs' t v) ∨ (m = .ow ∧ ∃ a o, v = .ref a ∧ H a = none ∧ Hs' a = none ∧ H' a = some o ∧ CellO K Hs' t o)
def spOf (K : PySem.W.Frag) (n : Nat) (sp : PSp) : Sp := fun vs H Q _ => vs.length = n ∧ ∃ Hs ts P, Le Hs H ∧ RL K Hs ts vs ∧ sp ts P ∧
  ∀ Hs' H' t m v, Aft K Hs H Hs' H' (fun _ => False) t m v → P t m → Q v H'
def spOf1 (K : PySem.W.Frag) (n : Nat) (sp : PSp1) : Sp := fun vs H Q _ => vs.length = n ∧ ∃ Hs a o c ts ws P, vs = .ref a :: ws ∧ Le Hs H ∧ Hs a = none ∧ H a = some o ∧ CellO K Hs c o ∧ RL K Hs ts ws ∧ sp c ts P ∧
  ∀ Hs' H' t m v c' o', Aft K Hs H Hs' H' (fun x => x = a) t m v → H' a = some o' → CellO K Hs' c' o' → P t m c' → Q v H'

/-! ### a def's body -/
@[simp] def τ0 (n : Nat) (ts : List T) : PSt := ts.map (fun t => some (t, .sh)) ++ List.replicate (n - ts.length) none
@[simp] def PE0 (P : T → Md → Prop) : PEnds := { nx := fun _ => P .non .sh, rt := fun t m _ => P t m }
theorem τ0_get {n i : Nat} {ts : List T} {t : T} {m : Md} (h : (τ0 n ts)[i]? = some (some (t, m))) : ts[i]? = some t ∧ m = .sh := by
  unfold τ0 at h
  rw [List.getElem?_append] at h
  split at h
  · rw [List.getElem?_map] at h
    cases e : ts[i]? with
    | none => rw [e] at h; cases h
    | some u => rw [e] at h; cases h; exact ⟨rfl, rfl⟩
  · rw [List.getElem?_replicate] at h
    split at h <;> cases h
section
variable {K : PySem.W.Frag} {Hs H Hs' H' : Hp} {N : List Str} {vs : List V} {ts : List T} {σ : L2.St} {τ : PSt} {t : T} {m : Md} {v : V} {a : Addr} {o : HO} {c : T}
theorem start_get {i : Nat} {v : V} (h : vs[i]? = some v) : (L2.start N vs)[i]? = some (some v) := by
  unfold L2.start
  have hl := (List.getElem?_eq_some_iff.mp h).1
  rw [List.getElem?_append_left (by simpa using hl), List.getElem?_map, h]
  rfl
theorem start_length (h : vs.length ≤ N.length) : (L2.start N vs).length = N.length := by
  unfold L2.start
  simp; omega
theorem τ0_length {n : Nat} (h : ts.length ≤ n) : (τ0 n ts).length = n := by
  unfold τ0
  simp; omega
def ent0 (Hs H : Hp) : Ent := ⟨H, Hs, []⟩
theorem inv0 (l : Le Hs H) (r : RL K Hs ts vs) (hn : vs.length ≤ N.length) : INV K (ent0 Hs H) Hs H (L2.start N vs) (τ0 N.length ts) [] := by
  have hl := r.length
  refine ⟨l, ?_, fun i t m e => ?_, fun j v t m e => (by simp at e), fun x y b h1 h2 => ?_, fun b o e _ => e, fun b o e h => h, fun x b h => ?_, Le.refl, fun i b h => (by cases h), fun i t e => ?_, fun j v t e => (by simp at e)⟩
  · rw [τ0_length (by omega), start_length hn]
  · obtain ⟨e1, rfl⟩ := τ0_get e
    obtain ⟨v, ev, rv⟩ := r.get e1
    exact ⟨v, start_get ev, rv⟩
  · cases x with
    | inl i =>
      obtain ⟨_, t, m, e, hm⟩ := h1
      exact absurd (τ0_get e).2 hm
    | inr j =>
      obtain ⟨t, m, e, _⟩ := h1
      simp at e
  · cases x with
    | inl i =>
      obtain ⟨_, t, m, e, hm⟩ := h
      exact absurd (τ0_get e).2 hm
    | inr j =>
      obtain ⟨t, m, e, _⟩ := h
      simp at e
  · cases (τ0_get e).2
/-- .. the first lent -/
@[simp] def τ1 (n : Nat) (c : T) (ts : List T) : PSt := some (c, .pn) :: (ts.map (fun t => some (t, .sh)) ++ List.replicate (n - (ts.length + 1)) none)
def ent1 (Hs H : Hp) (a : Addr) : Ent := ⟨H, Hs, [(0, a)]⟩
theorem τ1_get {n i : Nat} (h : (τ1 n c ts)[i + 1]? = some (some (t, m))) : ts[i]? = some t ∧ m = .sh := by
  unfold τ1 at h
  rw [List.getElem?_cons_succ, List.getElem?_append] at h
  split at h
  · rw [List.getElem?_map] at h
    cases e : ts[i]? with
    | none => rw [e] at h; cases h
    | some u => rw [e] at h; cases h; exact ⟨rfl, rfl⟩
  · rw [List.getElem?_replicate] at h
    split at h <;> cases h
theorem inv1 (l : Le Hs H) (r : RL K Hs ts vs) (hn : vs.length + 1 ≤ N.length) (h1 : Hs a = none) (h2 : H a = some o) (hc : CellO K Hs c o) : INV K (ent1 Hs H a) Hs H (L2.start N (.ref a :: vs)) (τ1 N.length c ts) [] := by
  have hl := r.length
  have own : ∀ x b, Ow (L2.start N (.ref a :: vs)) (τ1 N.length c ts) [] x b → x = .inl 0 ∧ b = a := fun x b h => by
    cases x with
    | inl i =>
      obtain ⟨e1, t, m, e, hm⟩ := h
      cases i with
      | zero =>
        rw [start_get (vs := .ref a :: vs) (i := 0) rfl] at e1
        cases e1
        exact ⟨rfl, rfl⟩
      | succ i => exact absurd (τ1_get e).2 hm
    | inr j =>
      obtain ⟨t, m, e, _⟩ := h
      simp at e
  have e0 : (L2.start N (.ref a :: vs))[0]? = some (some (.ref a)) := start_get (vs := .ref a :: vs) (i := 0) rfl
  refine ⟨l, ?_, fun i t m e => ?_, fun j v t m e => (by simp at e), fun x y b g1 g2 => ?_, fun b o e _ => e, fun b o e h => h, fun x b h o _ => ⟨0, ?_⟩, Le.refl, fun i b h => ?_, fun i t e => ?_, fun j v t e => (by simp at e)⟩
  · rw [start_length (by simpa using hn)]
    unfold τ1
    simp; omega
  · cases i with
    | zero =>
      cases e
      exact ⟨_, e0, a, o, rfl, h1, h2, hc⟩
    | succ i =>
      obtain ⟨e1, rfl⟩ := τ1_get e
      obtain ⟨v, ev, rv⟩ := r.get e1
      exact ⟨v, start_get (vs := .ref a :: vs) (i := i + 1) ev, rv⟩
  · rw [(own x b g1).1, (own y b g2).1]
  · rw [(own x b h).2]
    exact List.mem_cons_self ..
  · have e : (i, b) = (0, a) := by simpa [ent1] using h
    cases e
    exact ⟨e0, c, rfl⟩
  · cases i with
    | zero => exact ⟨a, List.mem_cons_self ..⟩
    | succ i => cases (τ1_get e).2
/-- behind the body -/
theorem aft_of {E : Ent} {ln : Addr → Prop} (hl : ∀ a, E.adr a → ln a) (I : INV K E Hs' H' σ τ [(v, t, m)]) : Aft K E.Hs0 E.H0 Hs' H' ln t m v := by
  have top : ([(v, t, m)] : Tmp)[0]? = some (v, t, m) := rfl
  refine ⟨I.l0, I.le, fun a o e h => I.fr a o e fun z => h (hl a z), fun a o e h => I.fs a o e h, ?_⟩
  cases m with
  | sh => exact .inl ⟨rfl, I.tm 0 _ _ _ top⟩
  | pn => exact absurd top (I.tp 0 _ _)
  | ow =>
    obtain ⟨a, o, e, h1, h2, h3⟩ := I.tm 0 _ _ _ top
    subst e
    refine .inr ⟨rfl, a, o, rfl, ?_, h1, h2, h3⟩
    cases e0 : E.H0 a with
    | none => rfl
    | some u =>
      have own : Ow σ τ [(V.ref a, t, Md.ow)] (.inr 0) a := ⟨t, .ow, top, by decide⟩
      obtain ⟨i, hi⟩ := I.fo _ _ own u e0
      obtain ⟨e1, t', e2⟩ := I.pn i a hi
      have := I.un _ _ a own (show Ow σ τ _ (.inl i) a from ⟨e1, t', .pn, e2, by decide⟩)
      cases this
end
section
variable {P : Program} {w : World} {K : PySem.W.Frag} {mg : Str → Option Value} {base : Heap} {x : Str} {params : Arguments} {body : List Stmt} {scope : Scope} {f : Addr} {fd : FuncData} {N ps : List Str} {k n : Nat}
/-- THE RULE: a def keeps its promise -/
theorem fn_z {sp : PSp} {wb : WS} (F : FunD K x x params body scope [] [] f fd) (hm : mg x = some (.ref f)) (S : FnScope N ps scope) (hn : ps.length = n) (hN : n ≤ N.length) (b : Binds K fd ps [])
    (hb : ∀ (cdv : Value) (A : Around) (outer : List Env) (s : Shared) (H : Hp) (E : XK), Room k (A.deeper (envOfC x scope s.heap.objs.size f cdv)) → LSs (cxOf C8.CX0 P w K mg base N x scope f cdv A outer s H E).nox body wb)
    (hp : ∀ ts Pq, ts.length = n → sp ts Pq → wb (PE0 Pq) (τ0 N.length ts)) : C8.Cal P w K mg base (k + 1) x (spOf K n sp) [] := by
  refine ⟨f, fd, ps, [], F.ok S (fun vs H Q E h => by rw [hn]; exact h.1) (fun cdv A outer s H vs Q E hr h => ?_), hm, F.kp, b, .nil⟩
  obtain ⟨hl, Hs, ts, Pq, l, r, hsp, hq⟩ := h
  refine ⟨_, PSs.nox (hb cdv A outer s H E hr), ?_⟩
  refine ⟨ent0 Hs H, Hs, τ0 N.length ts, [], PE0 Pq, inv0 l r (by omega), hp ts Pq (by rw [← r.length, hl]) hsp, fun Hs' H' σ' τ' I p => ?_, fun Hs' H' σ' τ' t m v I p => ?_, fun _ _ _ _ _ p => p.elim, fun _ _ _ _ _ p => p.elim⟩
  · exact hq Hs' H' .non .sh .non (aft_of (E := ent0 Hs H) (fun a ⟨i, hi⟩ => by cases hi) (I.push (t := .non) (v := .non) (by simp only [R]))) p
  · exact hq Hs' H' t m v (aft_of (E := ent0 Hs H) (fun a ⟨i, hi⟩ => by cases hi) I) p
@[simp] def PE1 (P : T → Md → T → Prop) : PEnds := { nx := fun τ => match τ[0]? with | some (some (c, _)) => P .non .sh c | _ => False, rt := fun t m τ => match τ[0]? with | some (some (c, _)) => P t m c | _ => False }
theorem fn_z1 {sp : PSp1} {wb : WS} (F : FunD K x x params body scope [] [] f fd) (hm : mg x = some (.ref f)) (S : FnScope N ps scope) (hn : ps.length = n + 1) (hN : n + 1 ≤ N.length) (b : Binds K fd ps [])
    (hb : ∀ (cdv : Value) (A : Around) (outer : List Env) (s : Shared) (H : Hp) (E : XK), Room k (A.deeper (envOfC x scope s.heap.objs.size f cdv)) → LSs (cxOf C8.CX0 P w K mg base N x scope f cdv A outer s H E).nox body wb)
    (hp : ∀ c ts Pq, ts.length = n → sp c ts Pq → wb (PE1 Pq) (τ1 N.length c ts)) : C8.Cal P w K mg base (k + 1) x (spOf1 K (n + 1) sp) [] := by
  refine ⟨f, fd, ps, [], F.ok S (fun vs H Q E h => by rw [hn]; exact h.1) (fun cdv A outer s H vs Q E hr h => ?_), hm, F.kp, b, .nil⟩
  obtain ⟨hl, Hs, a, o, c, ts, ws, Pq, rfl, l, h1, h2, hc, r, hsp, hq⟩ := h
  have hws : ws.length = n := by simpa using hl
  refine ⟨_, PSs.nox (hb cdv A outer s H E hr), ?_⟩
  have fin : ∀ Hs' H' σ' τ' t m v c' m', INV K (ent1 Hs H a) Hs' H' σ' τ' [(v, t, m)] → τ'[0]? = some (some (c', m')) → Pq t m c' → Q v H' := fun Hs' H' σ' τ' t m v c' m' I e p => by
    obtain ⟨e1, u, e2⟩ := I.pn 0 a (List.mem_cons_self ..)
    rw [e] at e2; cases e2
    obtain ⟨v', e3, k⟩ := I.sl 0 _ _ e
    rw [e1] at e3; cases e3
    obtain ⟨b, o', eb, _, g2, g3⟩ := (OK.own (by decide : Md.pn ≠ .sh)).mp k
    cases eb
    exact hq Hs' H' t m v c' o' (aft_of (E := ent1 Hs H a) (fun b ⟨i, hi⟩ => by
      have e : (i, b) = (0, a) := by simpa [ent1] using hi
      cases e; rfl) I) g2 g3 p
  refine ⟨ent1 Hs H a, Hs, τ1 N.length c ts, [], PE1 Pq, inv1 l r (by omega) h1 h2 hc, hp c ts Pq (by rw [← r.length, hws]) hsp, fun Hs' H' σ' τ' I p => ?_, fun Hs' H' σ' τ' t m v I p => ?_, fun _ _ _ _ _ p => p.elim, fun _ _ _ _ _ p => p.elim⟩
  · dsimp only [PE1] at p
    split at p
    · rename_i c' m' e
      exact fin Hs' H' σ' τ' .non .sh .non c' m' (I.push (t := .non) (v := .non) (by simp only [R])) e p
    · exact p.elim
  · dsimp only [PE1] at p
    split at p
    · rename_i c' m' e
      exact fin Hs' H' σ' τ' t m v c' m' I e p
    · exact p.elim
end
/-! ### the caller's side -/
section
variable {K : PySem.W.Frag} {E : Ent} {Hs H Hs' H' : Hp} {σ : L2.St} {τ : PSt} {tmp more : Tmp} {t : T} {m : Md} {v : V} {a : Addr} {o o' : HO} {c c' : T}
theorem INV.pushO (I : INV K E Hs H σ τ tmp) (h : H a = some o) (hs : Hs a = none) (cc : CellO K Hs t o) (no : ∀ x, ¬ Ow σ τ tmp x a) (h0 : E.H0 a = none) : INV K E Hs H σ τ (tmp ++ [(.ref a, t, .ow)]) := by
  have hj : ∀ (j : Nat) (v' : V) (t' : T) (m' : Md), (tmp ++ [(V.ref a, t, Md.ow)])[j]? = some (v', t', m') → tmp[j]? = some (v', t', m') ∨ (j = tmp.length ∧ v' = .ref a ∧ t' = t ∧ m' = .ow) := fun j v' t' m' e => by
    rw [List.getElem?_append] at e
    split at e
    · exact .inl e
    · refine .inr ?_
      rename_i hn
      rw [List.getElem?_singleton] at e
      split at e
      · cases e; exact ⟨by omega, rfl, rfl, rfl⟩
      · cases e
  have own : ∀ x b, Ow σ τ (tmp ++ [(V.ref a, t, Md.ow)]) x b → Ow σ τ tmp x b ∨ (x = .inr tmp.length ∧ b = a) := fun x b h => by
    cases x with
    | inl i => exact .inl h
    | inr j =>
      obtain ⟨t', m', e, hm⟩ := h
      rcases hj j _ t' m' e with e | ⟨rfl, e, _, _⟩
      · exact .inl ⟨t', m', e, hm⟩
      · cases e; exact .inr ⟨rfl, rfl⟩
  refine ⟨I.le, I.len, I.sl, fun j v' t' m' e => ?_, fun x y b h1 h2 => ?_, I.fr, I.fs, fun x b hx u e => ?_, I.l0, I.pn, I.pq, fun j v' t' e => ?_⟩
  · rcases hj j v' t' m' e with e | ⟨_, rfl, rfl, rfl⟩
    · exact I.tm j v' t' m' e
    · exact ⟨a, o, rfl, hs, h, cc⟩
  · rcases own x b h1 with q1 | ⟨e1, d1⟩
    · rcases own y b h2 with q2 | ⟨e2, d2⟩
      · exact I.un x y b q1 q2
      · rw [d2] at q1; exact absurd q1 (no x)
    · rcases own y b h2 with q2 | ⟨e2, d2⟩
      · rw [d1] at q2; exact absurd q2 (no y)
      · rw [e1, e2]
  · rcases own x b hx with hx | ⟨_, rfl⟩
    · exact I.fo x b hx u e
    · rw [h0] at e; cases e
  · rcases hj j v' t' .pn e with e | ⟨_, _, _, e⟩
    · exact I.tp j v' t' e
    · cases e
theorem INV.h0some (I : INV K E Hs H σ τ tmp) {b : Addr} {u : HO} (e : E.H0 b = some u) : ∃ w, H b = some w := by
  by_cases hb : E.adr b
  · obtain ⟨i, hi⟩ := hb
    obtain ⟨e1, t', e2⟩ := I.pn i b hi
    exact (I.owned (x := .inl i) (a := b) ⟨e1, t', .pn, e2, by decide⟩).2
  · exact ⟨u, I.fr b u e hb⟩
theorem INV.result {ln : Addr → Prop} (I : INV K E Hs H σ τ tmp) (I' : INV K E Hs' H' σ τ' tmp) (A : Aft K Hs H Hs' H' ln t m v) (hτ : ∀ x b, Ow σ τ' tmp x b → Ow σ τ tmp x b) : INV K E Hs' H' σ τ' (tmp ++ [(v, t, m)]) := by
  rcases A.res with ⟨rfl, r⟩ | ⟨rfl, b, u, rfl, h1, h2, h3, h4⟩
  · exact I'.push r
  · refine I'.pushO h3 h2 h4 (fun x hx => ?_) ?_
    · obtain ⟨_, w, e⟩ := I.owned (hτ x b hx)
      rw [h1] at e; cases e
    · cases e : E.H0 b with
      | none => rfl
      | some w =>
        obtain ⟨w', e'⟩ := I.h0some e
        rw [h1] at e'; cases e'
theorem INV.after0 (I : INV K E Hs H σ τ (tmp ++ more)) (A : Aft K Hs H Hs' H' (fun _ => False) t m v) : INV K E Hs' H' σ τ (tmp ++ [(v, t, m)]) := by
  have I := I.pop
  refine I.result (I.heap A.l1 A.l2 (fun x b ow => ?_) fun b u e => ⟨fun hb => A.kp b u (I.fr b u e hb) id, fun e2 => ?_⟩) A fun _ _ h => h
  · obtain ⟨h1, w, h2⟩ := I.owned ow
    exact ⟨by rw [A.kp b w h2 id, h2], A.ns b w h2 h1⟩
  · obtain ⟨w, h2⟩ := I.h0some e
    exact A.ns b w h2 (I.fs b u e e2)
theorem upd_back {H : Hp} (h : H a = some o') : upd (upd H a o) a o' = H := by
  funext b
  by_cases hb : b = a
  · subst hb; rw [upd_same, h]
  · rw [upd_ne hb, upd_ne hb]
theorem INV.after1 {k : Nat} {mk : Md} (I : INV K E Hs H σ τ (tmp ++ more)) (e : τ[k]? = some (some (c, mk))) (ev : σ[k]? = some (some (.ref a))) (hm : mk ≠ .sh) (A : Aft K Hs H Hs' H' (fun x => x = a) t m v) (ho' : H' a = some o') (hc' : CellO K Hs' c' o') :
    INV K E Hs' H' σ (τ.set k (some (c', mk))) (tmp ++ [(v, t, m)]) := by
  have I := I.pop
  have own : Ow σ τ tmp (.inl k) a := ⟨ev, c, mk, e, hm⟩
  obtain ⟨hs, o, ho⟩ := I.owned own
  have hs' : Hs' a = none := A.ns a o ho hs
  have I1 : INV K E Hs' (upd H' a o) σ τ tmp := by
    refine I.heap A.l1 (fun b u q => ?_) (fun x b ow => ?_) fun b u e0 => ⟨fun hb => ?_, fun e2 => ?_⟩
    · rw [upd_ne (fun z => by subst z; rw [hs'] at q; cases q)]; exact A.l2 b u q
    · obtain ⟨h1, w, h2⟩ := I.owned ow
      refine ⟨?_, A.ns b w h2 h1⟩
      by_cases hb : b = a
      · subst hb; rw [upd_same, ho]
      · rw [upd_ne hb, A.kp b w h2 hb, h2]
    · have hne : b ≠ a := fun z => by subst z; exact hb (I.fo _ _ own u e0)
      rw [upd_ne hne]
      exact A.kp b u (I.fr b u e0 hb) hne
    · obtain ⟨w, h2⟩ := I.h0some e0
      exact A.ns b w h2 (I.fs b u e0 e2)
  have I2 := I1.write e ev hm hc'
  rw [upd_back ho'] at I2
  refine I.result I2 A fun x b h => ?_
  cases x with
  | inl i =>
    obtain ⟨e1, u, m', e2, hm'⟩ := h
    by_cases hi : k = i
    · subst hi
      rw [ev] at e1; cases e1
      exact own
    · rw [List.getElem?_set_ne hi] at e2
      exact ⟨e1, u, m', e2, hm'⟩
  | inr j => exact h
end
@[simp] def wCall (n : Nat) (sp : PSp) (os : List El) (τ : PSt) (Q : T → Md → PSt → Prop) : Prop := wEls os τ fun ts τ' => ts.length = n ∧ sp ts fun t m => Q t m τ'
@[simp] def wCall1 (n k : Nat) (sp : PSp1) (os : List El) (τ : PSt) (Q : T → Md → PSt → Prop) : Prop := own τ k (fun _ _ => True) ∧ wEls os τ fun ts τ' => own τ' k fun c mk => ts.length = n ∧ sp c ts fun t m c' => Q t m (τ'.set k (some (c', mk)))
section
variable {X : Cx} {x y : Str} {p p2 pos : Pos} {e : Expr} {es : List Expr} {os : List El} {k j n : Nat}
theorem els_ok {K : PySem.W.Frag} {E : Ent} {Hs H : Hp} {σ : L2.St} {τ : PSt} {tmp : Tmp} {PQ : List T → PSt → Prop} {Q : List V → Hp → Prop} (I : INV K E Hs H σ τ tmp) (h : wEls os τ PQ)
    (k : ∀ Hs' H' τ' more ts vs, INV K E Hs' H' σ τ' (tmp ++ more) → RL K Hs' ts vs → PQ ts τ' → Q vs H') : tEls K os σ H Q := els os I h fun Hs' H' τ' ts vs I' hl p => k Hs' H' τ' _ ts vs I' (INV.getL (more := []) (by rw [List.append_nil]; exact I') hl) p
theorem le_call {sp : PSp} (c : C8.Cal X.prog X.w X.K X.mg X.base k x (spOf X.K n sp) []) (hr : Room j X.A) (hk : k ≤ j) (hg : Gl X x) (ha : LEs X (e :: es) os)
    (hdb : (x == ("__debug__" : Str)) = false := by decide) (he : starEach (e :: es) X.env = (false, eval e X.env) :: starEach es X.env := by rfl) (hpl : (backTo pos (starEach es X.env)).any (·.1) = false := by rfl) :
    LE X (.Call (.Name x p) (e :: es) [] pos) (wCall n sp os) := PE.imp (C8.pe_c c hr hk hg ha hdb he hpl) fun σ H Q hw => by
  obtain ⟨E, Hs, τ, tmp, PQ, I, hw, hq⟩ := hw
  refine els_ok I hw fun Hs1 H1 τ1 more ts vs I1 r p => ?_
  refine ⟨by rw [List.append_nil, r.length]; exact p.1, Hs1, ts, _, I1.le, by rw [List.append_nil]; exact r, p.2, fun Hs2 H2 t m v A p2 => ?_⟩
  exact hq Hs2 H2 τ1 t m v (I1.after0 A) p2
theorem le_call1 {sp : PSp1} {ky : Nat} (c : C8.Cal X.prog X.w X.K X.mg X.base k x (spOf1 X.K (n + 1) sp) []) (hr : Room j X.A) (hk : k ≤ j) (hg : Gl X x) (hN : X.N[ky]? = some y) (hv : Vis X.env.scope y) (ha : LEs X es os)
    (hd : (y == ("__debug__" : Str)) = false := by decide) (hcd : (y == ("__classdict__" : Str)) = false := by decide)
    (hdb : (x == ("__debug__" : Str)) = false := by decide) (he : starEach (.Name y p2 :: es) X.env = (false, eval (.Name y p2) X.env) :: starEach es X.env := by rfl) (hpl : (backTo pos (starEach es X.env)).any (·.1) = false := by rfl) :
    LE X (.Call (.Name x p) (.Name y p2 :: es) [] pos) (wCall1 n ky sp os) := PE.imp (C8.pe_c c hr hk hg (pa_cons (pe_var hN hv hd hcd) ha he) hdb he hpl) fun σ H Q hw => by
  obtain ⟨E, Hs, τ, tmp, PQ, I, ⟨h0, hw⟩, hq⟩ := hw
  obtain ⟨c0, m0, e0, hm0, _⟩ := h0.get
  obtain ⟨v0, ev0, k0⟩ := I.sl ky _ _ e0
  obtain ⟨a, o, rfl, _, _, _⟩ := (OK.own hm0).mp k0
  refine ⟨_, ev0, ?_⟩
  refine els_ok I hw fun Hs1 H1 τ1 more ts vs I1 r p => ?_
  obtain ⟨c, mk, e1, hm, p⟩ := p.get
  obtain ⟨v1, ev1, k1⟩ := I1.sl ky _ _ e1
  rw [ev0] at ev1; cases ev1
  obtain ⟨b, o1, eb, g1, g2, g3⟩ := (OK.own hm).mp k1
  cases eb
  refine ⟨by rw [List.append_nil, List.length_cons, r.length, p.1], Hs1, a, o1, c, ts, vs, _, by rw [List.append_nil], I1.le, g1, g2, g3, r, p.2, fun Hs2 H2 t m v c' o' A ho' hc' p2 => ?_⟩
  exact hq Hs2 H2 _ t m v (I1.after1 e1 ev0 hm A ho' hc') p2
/-! ### chains of two comparisons -/
@[simp] def wChain (op op' : WOp) (a b c : WV) (τ : PSt) (Q : T → Md → PSt → Prop) : Prop := a τ fun x τ1 => b τ1 fun y τ2 => op [x, y] fun t _ => match t with
  | .bl k => if k = true then c τ2 fun z τ3 => op' [y, z] fun t m => Q t m τ3 else Q (.bl false) .sh τ2
  | _ => False
theorem chain_imp {K : PySem.W.Frag} {op op' : WOp} {r r' : R2} {wa wb wc : WV} (s : OpS K op (r2l r)) (s' : OpS K op' (r2l r')) : ∀ σ H Q, tE K (wChain op op' wa wb wc) σ H Q → tChain r r' (tV K wa) (tV K wb) (tV K wc) σ H Q := fun σ H Q hw => by
  obtain ⟨E, Hs, τ, tmp, PQ, I, hw, hq⟩ := hw
  refine ⟨E, Hs, τ, tmp, _, I, hw, fun Hs1 H1 τ1 t v I1 p1 => ?_⟩
  refine ⟨E, Hs1, τ1, _, _, I1, p1, fun Hs2 H2 τ2 u v' I2 p2 => ?_⟩
  refine s (ts := [t, u]) (vs := [v, v']) I2 ⟨v, _, rfl, .inl (top1 I2.pop), v', _, rfl, .inl (top1 I2), rfl⟩ p2 fun Hs3 H3 z m z' I3 p3 => ?_
  cases z <;> first | exact p3.elim | skip
  rename_i k
  refine ⟨k, (top1 I3).bl, ?_⟩
  have I4 := I3.pop
  cases k
  · exact hq _ _ _ _ _ _ (I4.pop.pop.push (R.bl.mpr rfl)) p3
  · refine ⟨E, Hs3, τ2, _, _, I4, p3, fun Hs5 H5 τ5 z w I5 p5 => ?_⟩
    exact s' (ts := [u, z]) (vs := [v', w]) I5.pop.pop.pop ⟨v', _, rfl, .inl (top1 I5.pop), w, _, rfl, .inl (top1 I5), rfl⟩ p5 fun Hs6 H6 z6 m6 v6 I6 p6 => hq Hs6 H6 τ5 z6 m6 v6 I6 p6
variable {a b c : Expr}
theorem le_chain {o o' : CmpOp} {r r' : R2} {op op' : WOp} {wa wb wc : WV} (s : OpS X.K op (r2l r)) (s' : OpS X.K op' (r2l r')) (ho : OpR X (compareOp o) r) (ho' : OpR X (compareOp o') r') (ha : LV X a wa) (hb : LV X b wb) (hc : LV X c wc)
    (hm : lastMarks [o, o'] [b, c] = false := by with_unfolding_all rfl) : LE X (.Compare a [o, o'] [b, c] pos) (wChain op op' wa wb wc) := (pe_chain ho ho' ha hb hc hm).imp (chain_imp s s')
theorem lb_chain {o o' : CmpOp} {r r' : R2} {op op' : WOp} {wa wb wc : WV} (s : OpS X.K op (r2l r)) (s' : OpS X.K op' (r2l r')) (ho : OpR X (compareOp o) r) (ho' : OpR X (compareOp o') r') (ha : LV X a wa) (hb : LV X b wb) (hc : LV X c wc)
    (hm : lastMarks [o, o'] [b, c] = false := by with_unfolding_all rfl) : LB X (.Compare a [o, o'] [b, c] pos) (wTst (wChain op op' wa wb wc)) := PT.imp (pt_chain ho ho' ha hb hc hm) (tst_of (chain_imp s s'))
end
theorem _root_.L2.Room.uu {k : Nat} {A : Around} (r : Room k A) (n : Nat) (h : n ≤ 150 := by decide) : A.units + n < cLine := by have := r.un; omega
end Z

set_option Elab.async false
set_option linter.all false
set_option maxRecDepth 100000
set_option maxHeartbeats 4000000
/-! Z15: the last comparisons; the truth of a value. -/
namespace Z
open PySem PySem.Spec PyProof.Rows L2
@[simp] def oGt : WOp := oB fun i j => decide (j < i)
@[simp] def oGe : WOp := oB fun i j => decide (j ≤ i)
@[simp] def truT : T → Option Bool
  | .bl b => some b
  | .int i => some (decide (i ≠ 0))
  | .tup ts => some (!ts.isEmpty)
  | .lst ts => some (!ts.isEmpty)
  | _ => none
@[simp] def wTru (w : WE) (τ : PSt) (Q : Bool → PSt → Prop) : Prop := w τ fun t _ τ' => match truT t with
  | some b => Q b τ'
  | none => False
theorem RL.isEmpty {K : PySem.W.Frag} {H : Hp} {ts : List T} {vs : List V} (r : RL K H ts vs) : vs.isEmpty = ts.isEmpty := by
  have := r.length
  cases ts <;> cases vs <;> simp_all
theorem lb_tru {X : Cx} {e : Expr} {w : WE} (h : LE X e w) (he : ∀ whole, isTrue e X.env whole = (do let v ← whole; standAt e.pos; holding [v] (truthy v)) := by intro _; rfl) : LB X e (wTru w) :=
  (pt_truth h he).imp fun σ H Q hw => by
    obtain ⟨E, Hs, τ, tmp, PQ, I, hw, hq⟩ := hw
    refine ⟨E, Hs, τ, tmp, _, I, hw, fun Hs1 H1 τ1 t m v I1 p => ?_⟩
    have vw := (top1 I1).vw
    have fin := fun b (p : PQ b τ1) => hq Hs1 H1 τ1 b I1.pop p
    cases t <;> first | exact p.elim | skip
    · rename_i b
      have e := Vw.bl.mp vw
      subst e
      exact ⟨b, rfl, fin b p⟩
    · rename_i i
      have e := Vw.int.mp vw
      subst e
      exact ⟨decide (i ≠ 0), (by show decide (i ≠ 0) = (i != 0); by_cases h : i = 0 <;> simp [h]), fin _ p⟩
    · rename_i ts
      obtain ⟨a, vs, rfl, q, r⟩ := vw.tup I1.le
      exact ⟨!ts.isEmpty, .inr (.inl ⟨vs, SqT.of q, by rw [r.isEmpty]⟩), fin _ p⟩
    · rename_i ts
      obtain ⟨a, vs, rfl, q, r⟩ := vw.lst I1.le
      exact ⟨!ts.isEmpty, .inl ⟨vs, SqL.of q, by rw [r.isEmpty]⟩, fin _ p⟩
end Z

set_option Elab.async false
set_option linter.all false
set_option maxRecDepth 100000
set_option maxHeartbeats 4000000
/-! Z16: plain lemmas for reading the wps. -/
namespace Z
open PySem PySem.Spec PyProof.Rows L2
@[simp] theorem npn_nil {τ : PSt} : npn τ [] := fun v h => by cases h
@[simp] def npAt (τ : PSt) (v : Nat) : Prop := match τ[v]? with
  | some u => np u
  | none => True
@[simp] theorem npn_cons {τ : PSt} {v : Nat} {vs : List Nat} : npn τ (v :: vs) ↔ npAt τ v ∧ npn τ vs := by
  constructor
  · intro h
    refine ⟨?_, fun x hx => h x (List.mem_cons_of_mem _ hx)⟩
    unfold npAt
    cases e : τ[v]? with
    | none => trivial
    | some u =>
      cases u with
      | none => trivial
      | some p =>
        obtain ⟨t, m⟩ := p
        cases m with
        | pn => exact absurd e (h v (List.mem_cons_self ..) t)
        | sh => trivial
        | ow => trivial
  · rintro ⟨h1, h2⟩ x hx t e
    rcases List.mem_cons.mp hx with rfl | hx
    · unfold npAt at h1
      rw [e] at h1
      exact h1
    · exact h2 x hx t e
theorem lc_pure {g : WG} {c : WB} {el : WV} {vs : List Nat} {ts : List T} {τ : PSt} {Q : T → Md → PSt → Prop} (F : T → Option T) (hw : wipeP τ vs = τ) (hn : npn τ vs)
    (step : ∀ t ∈ ts, ∀ R : Option T → PSt → Prop, R (F t) τ → g t τ fun τ2 => c τ2 fun k τ3 => if k = true then el τ3 fun y τ4 => npn τ4 vs ∧ R (some y) (wipeP τ4 vs) else npn τ3 vs ∧ R none (wipeP τ3 vs))
    (fin : Q (.lst (ts.filterMap F)) .ow τ) :
    ∃ Pv : Nat → List T → PSt → Prop, (∀ i acc τ, Pv i acc τ → npn τ vs) ∧ Pv 0 [] τ ∧
      (∀ i t acc τ, ts[i]? = some t → Pv i acc τ → g t (wipeP τ vs) fun τ2 => c τ2 fun k τ3 =>
        if k = true then el τ3 fun y τ4 => npn τ4 vs ∧ Pv (i + 1) (acc ++ [y]) (wipeP τ4 vs) else npn τ3 vs ∧ Pv (i + 1) acc (wipeP τ3 vs)) ∧
      ∀ acc τ, Pv ts.length acc τ → Q (.lst acc) .ow (wipeP τ vs) := by
  refine ⟨fun i acc τ' => τ' = τ ∧ acc = (ts.take i).filterMap F, fun i acc τ' h => by rw [h.1]; exact hn, ⟨rfl, by simp⟩, fun i t acc τ' e h => ?_, fun acc τ' h => ?_⟩
  · obtain ⟨rfl, rfl⟩ := h
    rw [hw]
    have hm : t ∈ ts := List.mem_of_getElem? e
    refine step t hm (fun o τ2 => match o with | some y => τ2 = τ' ∧ (ts.take i).filterMap F ++ [y] = (ts.take (i + 1)).filterMap F | none => τ2 = τ' ∧ (ts.take i).filterMap F = (ts.take (i + 1)).filterMap F) ?_
    have ht : ts.take (i + 1) = ts.take i ++ [t] := by
      rw [List.take_add_one, e]; rfl
    rw [ht, List.filterMap_append]
    cases hF : F t with
    | none => simp [hF]
    | some y => simp [hF]
  · obtain ⟨rfl, rfl⟩ := h
    rw [hw, List.take_length]
    exact fin
theorem wLc_pure {wi : WI} {g : WG} {c : WB} {el : WV} {vs : List Nat} {ts : List T} {τ τ1 : PSt} {Q : T → Md → PSt → Prop} (F : T → Option T) (hi : ∀ P : List T → PSt → Prop, P ts τ1 → wi τ P) (hl : ts.length ≤ sizeLine) (hw : wipeP τ1 vs = τ1) (hn : npn τ1 vs)
    (step : ∀ t ∈ ts, ∀ R : Option T → PSt → Prop, R (F t) τ1 → g t τ1 fun τ2 => c τ2 fun k τ3 => if k = true then el τ3 fun y τ4 => npn τ4 vs ∧ R (some y) (wipeP τ4 vs) else npn τ3 vs ∧ R none (wipeP τ3 vs))
    (fin : Q (.lst (ts.filterMap F)) .ow τ1) : wLc wi g c el vs τ Q := hi _ ⟨hl, lc_pure F hw hn step fin⟩
/-- .. without tests -/
theorem wLc_map {wi : WI} {g : WG} {el : WV} {vs : List Nat} {ts : List T} {τ τ1 : PSt} {Q : T → Md → PSt → Prop} (F : T → T) (hi : ∀ P : List T → PSt → Prop, P ts τ1 → wi τ P) (hl : ts.length ≤ sizeLine) (hw : wipeP τ1 vs = τ1) (hn : npn τ1 vs)
    (step : ∀ t ∈ ts, ∀ R : T → PSt → Prop, R (F t) τ1 → g t τ1 fun τ2 => el τ2 fun y τ4 => npn τ4 vs ∧ R y (wipeP τ4 vs))
    (fin : Q (.lst (ts.map F)) .ow τ1) : wLc wi g wYes el vs τ Q := by
  refine wLc_pure (fun t => some (F t)) hi hl hw hn (fun t ht R hR => ?_) ?_
  · have := step t ht (fun y τ' => R (some y) τ') hR
    simpa only [wYes, if_true] using this
  · have e : ts.filterMap (fun t => some (F t)) = ts.map F := by rw [List.filterMap_eq_map']
    rw [e]; exact fin
/-- the members of a list that are told by f -/
theorem filterMap_map {α : Type} {f : α → T} {F : T → Option T} {G : α → Option T} (h : ∀ x, F (f x) = G x) (l : List α) : (l.map f).filterMap F = l.filterMap G := by
  rw [List.filterMap_map]
  congr 1
  funext x
  exact h x
@[simp] theorem blsT_map' (ns : List Bool) : blsT (ns.map T.bl) = some ns := blsT_map ns
/-! ### ints, tuples, lists of them -/
/-- a tree of ints, tuples and lists, not deep -/
def sh : Nat → T → Prop
  | _, .int _ => True
  | d + 1, .tup ts => ∀ t ∈ ts, sh d t
  | d + 1, .lst ts => ∀ t ∈ ts, sh d t
  | _, _ => False
theorem sh_int {d : Nat} {i : Int} : sh d (.int i) := by cases d <;> trivial
theorem sh_tup {d : Nat} {ts : List T} (h : ∀ t ∈ ts, sh d t) : sh (d + 1) (.tup ts) := h
theorem sh_lst {d : Nat} {ts : List T} (h : ∀ t ∈ ts, sh d t) : sh (d + 1) (.lst ts) := h
theorem toDs_map (ts : List T) : toDs ts = ts.map toD := by
  induction ts with
  | nil => rfl
  | cons t ts ih => simp [toDs, ih]
theorem depthAll_le {d : Nat} : ∀ {xs : List PyData}, (∀ x ∈ xs, x.depth ≤ d) → PyData.depthAll xs ≤ d
  | [], _ => Nat.zero_le _
  | x :: xs, h => by
    have h1 := h x (List.mem_cons_self ..)
    have h2 := depthAll_le fun y hy => h y (List.mem_cons_of_mem _ hy)
    simp only [PyData.depthAll]
    omega
theorem canLayAll_of : ∀ {xs : List PyData}, (∀ x ∈ xs, x.canLay0 = true) → PyData.canLayAll0 xs = true
  | [], _ => rfl
  | x :: xs, h => by
    simp only [PyData.canLayAll0, h x (List.mem_cons_self ..), canLayAll_of fun y hy => h y (List.mem_cons_of_mem _ hy), Bool.and_self]
theorem sh_lay : ∀ (d : Nat) (t : T), sh d t → (toD t).canLay0 = true ∧ (toD t).depth ≤ d
  | 0, t, h => by cases t <;> first | exact h.elim | exact ⟨rfl, Nat.le_refl _⟩
  | d + 1, t, h => by
    cases t <;> first | exact h.elim | skip
    · exact ⟨rfl, Nat.zero_le _⟩
    · rename_i ts
      have e : ∀ x ∈ toDs ts, x.canLay0 = true ∧ x.depth ≤ d := fun x hx => by
        rw [toDs_map] at hx
        obtain ⟨t, ht, rfl⟩ := List.mem_map.mp hx
        exact sh_lay d t (h t ht)
      refine ⟨?_, ?_⟩
      · simp only [toD, PyData.canLay0]; exact canLayAll_of fun x hx => (e x hx).1
      · simp only [toD, PyData.depth]
        have := depthAll_le (d := d) fun x hx => (e x hx).2
        omega
    · rename_i ts
      have e : ∀ x ∈ toDs ts, x.canLay0 = true ∧ x.depth ≤ d := fun x hx => by
        rw [toDs_map] at hx
        obtain ⟨t, ht, rfl⟩ := List.mem_map.mp hx
        exact sh_lay d t (h t ht)
      refine ⟨?_, ?_⟩
      · simp only [toD, PyData.canLay0]; exact canLayAll_of fun x hx => (e x hx).1
      · simp only [toD, PyData.depth]
        have := depthAll_le (d := d) fun x hx => (e x hx).2
        omega
theorem sh_tsh {d : Nat} {t : T} (h : sh d t) (hd : d ≤ 64 := by decide) : tsh t = true := by
  obtain ⟨h1, h2⟩ := sh_lay d t h
  unfold tsh SeqAt.shaped
  rw [h1]
  simp; omega
theorem eqvAll_iff {d : Nat} (ih : ∀ t u, sh d t → sh d u → (teq t u = true ↔ t = u)) : ∀ {ts us : List T}, (∀ t ∈ ts, sh d t) → (∀ t ∈ us, sh d t) → (PyData.eqvAll (toDs ts) (toDs us) = true ↔ ts = us)
  | [], [], _, _ => by simp [toDs, PyData.eqvAll]
  | [], _ :: _, _, _ => by simp [toDs, PyData.eqvAll]
  | _ :: _, [], _, _ => by simp [toDs, PyData.eqvAll]
  | t :: ts, u :: us, h1, h2 => by
    simp only [toDs, PyData.eqvAll, Bool.and_eq_true, List.cons.injEq]
    have e1 := ih t u (h1 t (List.mem_cons_self ..)) (h2 u (List.mem_cons_self ..))
    have e2 := eqvAll_iff ih (fun x hx => h1 x (List.mem_cons_of_mem _ hx)) (fun x hx => h2 x (List.mem_cons_of_mem _ hx))
    unfold teq at e1
    rw [e1, e2]
theorem sh_up : ∀ {d : Nat} {t : T}, sh d t → sh (d + 1) t
  | 0, t, h => by cases t <;> first | exact h.elim | trivial
  | d + 1, t, h => by
    cases t <;> first | exact h.elim | trivial | skip
    · exact fun u hu => sh_up (h u hu)
    · exact fun u hu => sh_up (h u hu)
theorem sh_le {d e : Nat} {t : T} (h : sh d t) (l : d ≤ e) : sh e t := by
  induction l with
  | refl => exact h
  | step _ ih => exact sh_up ih
theorem sh_eqv : ∀ (d : Nat) (t u : T), sh d t → sh d u → (teq t u = true ↔ t = u)
  | 0, t, u, h1, h2 => by
    cases t <;> first | exact h1.elim | skip
    cases u <;> first | exact h2.elim | skip
    simp [teq, toD, PyData.eqv]
  | d + 1, t, u, h1, h2 => by
    cases t <;> first | exact h1.elim | skip
    all_goals cases u <;> first | exact h2.elim | skip
    all_goals first
      | (simp [teq, toD, PyData.eqv]; done)
      | (simp only [teq, toD, PyData.eqv, T.tup.injEq]; exact eqvAll_iff (sh_eqv d) h1 h2)
      | (simp only [teq, toD, PyData.eqv, T.lst.injEq]; exact eqvAll_iff (sh_eqv d) h1 h2)
theorem sh_teq {d e : Nat} {t u : T} (h1 : sh d t) (h2 : sh e u) : teq t u = true ↔ t = u := sh_eqv (max d e) t u (sh_le h1 (Nat.le_max_left _ _)) (sh_le h2 (Nat.le_max_right _ _))
theorem teq_self {d : Nat} {t : T} (h : sh d t) : teq t t = true := (sh_teq h h).mpr rfl
theorem teq_false {d e : Nat} {t u : T} (h1 : sh d t) (h2 : sh e u) (h : t ≠ u) : teq t u = false := by
  cases q : teq t u with
  | false => rfl
  | true => exact absurd ((sh_teq h1 h2).mp q) h
@[simp] theorem teq_int {a b : Int} : teq (.int a) (.int b) = decide (a = b) := by
  simp only [teq, toD, PyData.eqv]; rw [Bool.eq_iff_iff]; simp
@[simp] theorem teq_bl {a b : Bool} : teq (.bl a) (.bl b) = (a == b) := by simp only [teq, toD, PyData.eqv]
@[simp] theorem tsh_int {a : Int} : tsh (.int a) = true := sh_tsh (d := 0) sh_int
@[simp] theorem tsh_bl {a : Bool} : tsh (.bl a) = true := rfl
theorem sh_ints {ns : List Int} : ∀ t ∈ ns.map T.int, sh 0 t := fun t ht => by
  obtain ⟨n, _, rfl⟩ := List.mem_map.mp ht
  exact sh_int
@[simp] theorem tsh_tupI {ns : List Int} : tsh (.tup (ns.map T.int)) = true := sh_tsh (sh_tup sh_ints)
@[simp] theorem tsh_lstI {ns : List Int} : tsh (.lst (ns.map T.int)) = true := sh_tsh (sh_lst sh_ints)
@[simp] theorem tsh_tup0 : tsh (.tup []) = true := sh_tsh (d := 1) (sh_tup fun _ h => by cases h)
@[simp] theorem tsh_lst0 : tsh (.lst []) = true := sh_tsh (d := 1) (sh_lst fun _ h => by cases h)
@[simp] theorem teq_lst0 {ts : List T} : teq (.lst ts) (.lst []) = ts.isEmpty := by cases ts <;> simp [teq, toD, toDs, PyData.eqv, PyData.eqvAll]
@[simp] theorem teq_tup0 {ts : List T} : teq (.tup ts) (.tup []) = ts.isEmpty := by cases ts <;> simp [teq, toD, toDs, PyData.eqv, PyData.eqvAll]
theorem int_inj {a b : List Int} : a.map T.int = b.map T.int ↔ a = b := by
  constructor
  · intro h
    induction a generalizing b with
    | nil => cases b with
      | nil => rfl
      | cons => simp at h
    | cons x a ih => cases b with
      | nil => simp at h
      | cons y b =>
        simp only [List.map_cons, List.cons.injEq, T.int.injEq] at h
        rw [h.1, ih h.2]
  · rintro rfl; rfl
@[simp] theorem teq_lstI {a b : List Int} : teq (.lst (a.map T.int)) (.lst (b.map T.int)) = decide (a = b) := by
  rw [Bool.eq_iff_iff, sh_teq (d := 1) (e := 1) (sh_lst sh_ints) (sh_lst sh_ints), T.lst.injEq, int_inj]; simp
@[simp] theorem teq_tupI {a b : List Int} : teq (.tup (a.map T.int)) (.tup (b.map T.int)) = decide (a = b) := by
  rw [Bool.eq_iff_iff, sh_teq (d := 1) (e := 1) (sh_tup sh_ints) (sh_tup sh_ints), T.tup.injEq, int_inj]; simp
@[simp] theorem kb_ii : kitB "int" "int" = some true := by decide +kernel
@[simp] theorem kb_ib : kitB "int" "bool" = some false := by decide +kernel
@[simp] theorem kb_tt : kitB "tuple" "tuple" = some true := by decide +kernel
end Z
namespace Z
open PySem PySem.Spec PyProof.Rows L2
theorem cutA_from {α : Type} {xs : List α} {i : Int} (h : 0 ≤ i) : cutA xs (some i) none = xs.drop i.toNat := by
  obtain ⟨k, rfl⟩ := Int.eq_ofNat_of_zero_le h
  unfold cutA
  rw [HT.sIx_nat, HT.sIx_none, Int.toNat_natCast]
  by_cases hk : k ≤ xs.length
  · rw [Nat.min_eq_left hk, List.take_of_length_le (by rw [List.length_drop]; omega)]
  · rw [Nat.min_eq_right (by omega), List.drop_length, List.drop_eq_nil_of_le (by omega)]; simp
theorem cutA_to {α : Type} {xs : List α} {i : Int} (h : 0 ≤ i) : cutA xs none (some i) = xs.take i.toNat := by
  obtain ⟨k, rfl⟩ := Int.eq_ofNat_of_zero_le h
  unfold cutA
  rw [HT.sIx_nat, HT.sIx_none, Int.toNat_natCast, List.drop_zero, Nat.sub_zero]
  by_cases hk : k ≤ xs.length
  · rw [Nat.min_eq_left hk]
  · rw [Nat.min_eq_right (by omega), List.take_length, List.take_of_length_le (by omega)]
@[simp] theorem cutA_1 {α : Type} {xs : List α} : cutA xs (some 1) none = xs.drop 1 := cutA_from (by omega)
/-- neighbours -/
theorem zip_next {α : Type} {R : α → α → Prop} : ∀ {l : List α}, l.Pairwise R → ∀ p ∈ l.zip (l.drop 1), R p.1 p.2
  | [], _, p, hp => by simp at hp
  | [x], _, p, hp => by simp at hp
  | x :: y :: l, h, p, hp => by
    have e : (x :: y :: l).zip ((x :: y :: l).drop 1) = (x, y) :: (y :: l).zip ((y :: l).drop 1) := rfl
    rw [e] at hp
    rcases List.mem_cons.mp hp with rfl | hp
    · exact (List.pairwise_cons.mp h).1 y (List.mem_cons_self ..)
    · exact zip_next (List.pairwise_cons.mp h).2 p hp
theorem zipTs_map {α : Type} {f : α → T} {l m : List α} : zipTs (l.map f) (m.map f) = (l.zip m).map fun p => .tup [f p.1, f p.2] := by
  unfold zipTs
  rw [List.zip_map, List.map_map]; rfl
end Z
namespace Z
open PySem PySem.Spec PyProof.Rows L2
theorem wLc_map0 {wi : WI} {g : WG} {el : WV} {vs : List Nat} {ts : List T} {τ : PSt} {Q : T → Md → PSt → Prop} (F : T → T) (hi : ∀ P : List T → PSt → Prop, P ts τ → wi τ P) (hl : ts.length ≤ sizeLine) (hw : wipeP τ vs = τ) (hn : npn τ vs)
    (step : ∀ t ∈ ts, ∀ R : T → PSt → Prop, R (F t) τ → g t τ fun τ2 => el τ2 fun y τ4 => npn τ4 vs ∧ R y (wipeP τ4 vs))
    (fin : Q (.lst (ts.map F)) .ow τ) : wLc wi g wYes el vs τ Q := wLc_map F hi hl hw hn step fin
theorem wLc_pure0 {wi : WI} {g : WG} {c : WB} {el : WV} {vs : List Nat} {ts : List T} {τ : PSt} {Q : T → Md → PSt → Prop} (F : T → Option T) (hi : ∀ P : List T → PSt → Prop, P ts τ → wi τ P) (hl : ts.length ≤ sizeLine) (hw : wipeP τ vs = τ) (hn : npn τ vs)
    (step : ∀ t ∈ ts, ∀ R : Option T → PSt → Prop, R (F t) τ → g t τ fun τ2 => c τ2 fun k τ3 => if k = true then el τ3 fun y τ4 => npn τ4 vs ∧ R (some y) (wipeP τ4 vs) else npn τ3 vs ∧ R none (wipeP τ3 vs))
    (fin : Q (.lst (ts.filterMap F)) .ow τ) : wLc wi g c el vs τ Q := wLc_pure F hi hl hw hn step fin
end Z
namespace Z
open PySem PySem.Spec PyProof.Rows L2
@[simp] theorem szl0 : 0 ≤ sizeLine := Nat.zero_le _
@[simp] theorem szl1 : 1 ≤ sizeLine := by rw [sizeLine_eq]; decide
@[simp] theorem szl2 : 2 ≤ sizeLine := by rw [sizeLine_eq]; decide
@[simp] theorem szl3 : 3 ≤ sizeLine := by rw [sizeLine_eq]; decide
theorem isort_map {α β : Type} {f : α → β} {lt : β → β → Bool} (l : List α) : isort lt (l.map f) = (isort (fun a b => lt (f a) (f b)) l).map f := by
  have hi : ∀ (x : α) (m : List α), ins lt (f x) (m.map f) = (ins (fun a b => lt (f a) (f b)) x m).map f := fun x m => by
    induction m with
    | nil => rfl
    | cons y m ih =>
      simp only [List.map_cons, ins]
      split
      · rw [ih]; rfl
      · rfl
  induction l with
  | nil => rfl
  | cons x l ih => simp only [List.map_cons, isort, ih, hi]
end Z
namespace Z
open PySem PySem.Spec PyProof.Rows L2
theorem ixN_nat {n k : Nat} (h : k < n) : L2.ixN n (k : Int) = some k := by
  unfold L2.ixN
  rw [if_pos (by omega), if_pos (by omega)]
  congr 1
theorem atI_at {α : Type} {xs : List α} {k : Nat} {x : α} (h : xs[k]? = some x) : L2.atI xs (k : Int) = some x := by
  unfold L2.atI
  rw [ixN_nat (List.getElem?_eq_some_iff.mp h).1]
  exact h
@[simp] theorem ixN_20 : L2.ixN 2 0 = some 0 := rfl
@[simp] theorem ixN_21 : L2.ixN 2 1 = some 1 := rfl
@[simp] theorem atI_c0 {α : Type} {x : α} {xs : List α} : L2.atI (x :: xs) 0 = some x := atI_at (k := 0) rfl
@[simp] theorem atI_c1 {α : Type} {x y : α} {xs : List α} : L2.atI (x :: y :: xs) 1 = some y := atI_at (k := 1) rfl
theorem wFor_of {wi : WI} {g : WG} {b : WS} {P : PEnds} {τ τ1 : PSt} {ts : List T} (hi : ∀ Q : List T → PSt → Prop, Q ts τ1 → wi τ Q) (Pv : Nat → PSt → Prop) (h0 : Pv 0 τ1)
    (step : ∀ i t τ, ts[i]? = some t → Pv i τ → g t τ fun τ2 => b { P with nx := Pv (i + 1), ct := Pv (i + 1), bk := P.nx } τ2) (fin : ∀ τ, Pv ts.length τ → P.nx τ) : wFor wi g b P τ := hi _ ⟨Pv, h0, step, fin⟩
theorem wFor_n {wi : WI} {g : WG} {b : WS} {P : PEnds} {τ τ1 : PSt} {n : Nat} (hi : ∀ Q : List T → PSt → Prop, Q ((List.range n).map fun i : Nat => T.int (i : Int)) τ1 → wi τ Q) (Pv : Nat → PSt → Prop) (h0 : Pv 0 τ1)
    (step : ∀ i τ, i < n → Pv i τ → g (.int (i : Int)) τ fun τ2 => b { P with nx := Pv (i + 1), ct := Pv (i + 1), bk := P.nx } τ2) (fin : ∀ τ, Pv n τ → P.nx τ) : wFor wi g b P τ := by
  refine wFor_of hi Pv h0 (fun i t τ e p => ?_) (fun τ p => fin τ (by simpa using p))
  have hi : i < n := by
    have := (List.getElem?_eq_some_iff.mp e).1
    simpa using this
  have : t = .int (i : Int) := by
    rw [List.getElem?_map, List.getElem?_range hi] at e
    cases e; rfl
  rw [this]
  exact step i τ hi p
theorem wFor_map {α : Type} {f : α → T} {l : List α} {wi : WI} {g : WG} {b : WS} {P : PEnds} {τ τ1 : PSt} (hi : ∀ Q : List T → PSt → Prop, Q (l.map f) τ1 → wi τ Q) (Pv : Nat → PSt → Prop) (h0 : Pv 0 τ1)
    (step : ∀ i x τ, l[i]? = some x → Pv i τ → g (f x) τ fun τ2 => b { P with nx := Pv (i + 1), ct := Pv (i + 1), bk := P.nx } τ2) (fin : ∀ τ, Pv l.length τ → P.nx τ) : wFor wi g b P τ := by
  refine wFor_of hi Pv h0 (fun i t τ e p => ?_) (fun τ p => fin τ (by simpa using p))
  rw [List.getElem?_map] at e
  cases q : l[i]? with
  | none => rw [q] at e; cases e
  | some x => rw [q] at e; cases e; exact step i x τ q p
theorem foldl_range {β : Type} (f : β → Nat → β) (b : β) (n : Nat) : (List.range (n + 1)).foldl f b = f ((List.range n).foldl f b) n := by
  rw [List.range_succ, List.foldl_append]; rfl
end Z
namespace Z
open PySem PySem.Spec PyProof.Rows L2
theorem wWhile_of {c : WB} {b : WS} {P : PEnds} {τ : PSt} (W : Nat → PSt → Prop) (m : Nat) (h0 : W m τ) (step : ∀ m τ, W m τ → c τ fun k τ1 => if k = true then b { P with nx := fun τ' => ∃ m', m' < m ∧ W m' τ', ct := fun τ' => ∃ m', m' < m ∧ W m' τ', bk := P.nx } τ1 else P.nx τ1) : wWhile c b P τ := ⟨W, ⟨m, h0⟩, step⟩
end Z
namespace Z
open PySem PySem.Spec PyProof.Rows L2
theorem enumTs_map {α : Type} {f : α → T} (l : List α) : enumTs (l.map f) = l.zipIdx.map fun p => .tup [.int (p.2 : Nat), f p.1] := by
  unfold enumTs
  rw [List.zipIdx_map, List.map_map]
  rfl
theorem take_succ_get {α : Type} {l : List α} {i : Nat} {x : α} (e : l[i]? = some x) : l.take (i + 1) = l.take i ++ [x] := by rw [List.take_add_one, e]; rfl
end Z
namespace Z
open PySem PySem.Spec PyProof.Rows L2
theorem wNm_any {i : Nat} {τ : PSt} {t : T} {m : Md} {Q : T → PSt → Prop} (e : τ[i]? = some (some (t, m))) (hm : m = .sh ∨ m = .ow) (h : Q t (τ.set i (some (t, .sh)))) : wNm i τ Q := by
  unfold wNm
  rw [e]
  rcases hm with rfl | rfl
  · have : τ.set i (some (t, .sh)) = τ := by
      have hi := (List.getElem?_eq_some_iff.mp e)
      obtain ⟨h1, h2⟩ := hi
      rw [← h2, List.set_getElem_self]
    rw [this] at h
    exact h
  · exact h
end Z
namespace Z
open PySem PySem.Spec PyProof.Rows L2
theorem atI_last {α : Type} {xs : List α} {x : α} (h : xs[xs.length - 1]? = some x) : L2.atI xs (-1) = some x := by
  have hp : 0 < xs.length := by
    have := (List.getElem?_eq_some_iff.mp h).1
    omega
  unfold L2.atI L2.ixN
  rw [if_neg (by omega), if_pos (by omega)]
  have e : ((-1 : Int) + (xs.length : Int)).toNat = xs.length - 1 := by omega
  simp only [e, Option.bind_some]
  exact h
end Z
namespace Z
open PySem PySem.Spec PyProof.Rows L2
theorem wLc_mapS {wi : WI} {g : WG} {el : WV} {vs : List Nat} {τ : PSt} {Q : T → Md → PSt → Prop} (S : List T → Prop) (F : T → T) (hi : ∀ P : List T → PSt → Prop, (∀ ts, S ts → P ts τ) → wi τ P) (hw : wipeP τ vs = τ) (hn : npn τ vs)
    (all : ∀ ts, S ts → ts.length ≤ sizeLine ∧ (∀ t ∈ ts, ∀ R : T → PSt → Prop, R (F t) τ → g t τ fun τ2 => el τ2 fun y τ4 => npn τ4 vs ∧ R y (wipeP τ4 vs)) ∧ Q (.lst (ts.map F)) .ow τ) : wLc wi g wYes el vs τ Q :=
  hi _ fun ts hs => wLc_map0 (wi := fun τ' P => P ts τ') (τ := τ) F (fun P h => h) (all ts hs).1 hw hn (all ts hs).2.1 (all ts hs).2.2
end Z

set_option Elab.async false
set_option linter.all false
set_option maxRecDepth 100000
set_option maxHeartbeats 4000000
/-! Z17: the law's def, as the head asks for it. -/
namespace Z
open PySem PySem.Spec PyProof.Rows L2
section
variable {P : Program} {w : World} {K : PySem.W.Frag} {mg : PySem.Str → Option Value} {base : Heap} {x : PySem.Str} {params : Arguments} {body : List Stmt} {scope : PySem.Scope} {f : Addr} {fd : FuncData} {N ps : List PySem.Str} {n k : Nat}
theorem fn_zF {sp : PSp} {wb : WS} (F : FunD K x x params body scope [] [] f fd) (S : FnScope N ps scope) (hn : ps.length = n) (hN : n ≤ N.length)
    (hb : ∀ (cdv : Value) (A : Around) (outer : List Env) (s : Shared) (H : Hp) (E : XK), Room k (A.deeper (envOfC x scope s.heap.objs.size f cdv)) → LSs (cxOf C8.CX0 P w K mg base N x scope f cdv A outer s H E).nox body wb)
    (hp : ∀ ts Pq, ts.length = n → sp ts Pq → wb (PE0 Pq) (τ0 N.length ts)) : FnOk P w K mg base C8.CX0 (k + 1) f fd ps (spOf K n sp) := by
  refine F.ok S (fun vs H Q E h => by rw [hn]; exact h.1) (fun cdv A outer s H vs Q E hr h => ?_)
  obtain ⟨hl, Hs, ts, Pq, l, r, hsp, hq⟩ := h
  refine ⟨_, PSs.nox (hb cdv A outer s H E hr), ?_⟩
  refine ⟨ent0 Hs H, Hs, τ0 N.length ts, [], PE0 Pq, inv0 l r (by omega), hp ts Pq (by rw [← r.length, hl]) hsp, fun Hs' H' σ' τ' I p => ?_, fun Hs' H' σ' τ' t m v I p => ?_, fun _ _ _ _ _ p => p.elim, fun _ _ _ _ _ p => p.elim⟩
  · exact hq Hs' H' .non .sh .non (aft_of (E := ent0 Hs H) (fun a ⟨i, hi⟩ => by cases hi) (I.push (t := .non) (v := .non) (by simp only [R]))) p
  · exact hq Hs' H' t m v (aft_of (E := ent0 Hs H) (fun a ⟨i, hi⟩ => by cases hi) I) p
/-- the law's own promise: True at every list of ints -/
theorem law_sp {sp : PSp} (h : ∀ (ns : List Int) (Pq : T → Md → Prop), ns.length ≤ 63 → Pq (.bl true) .sh → sp [.frl (ns.map T.int)] Pq) {H : Hp} {a : Addr} {ns : List Int} (hl : ns.length ≤ 63) (hS : SqL K H a (ns.map V.int)) : spOf K 1 sp [.ref a] H (fun v _ => v = .bl true) fun _ _ _ => False := by
  refine ⟨rfl, H, [.frl (ns.map T.int)], fun t m => t = .bl true ∧ m = .sh, Le.refl, RL.one (by simp only [R]; exact ⟨a, _, rfl, hS, RL.of_ints⟩), h ns _ hl ⟨rfl, rfl⟩, fun Hs' H' t m v A p => ?_⟩
  obtain ⟨rfl, rfl⟩ := p
  rcases A.res with ⟨_, r⟩ | ⟨e, _⟩
  · exact R.bl.mp r
  · cases e
end
end Z

set_option Elab.async false
set_option linter.all false
set_option maxRecDepth 100000
namespace K44
/-! pairings of a list of ties, counted by their size -/
abbrev Tie := Nat × Nat
def tou (x : Nat) (t : Tie) : Bool := decide (t.1 = x) || decide (t.2 = x)
def meets (t u : Tie) : Bool := tou t.1 u || tou t.2 u
def away (t : Tie) (l : List Tie) : List Tie := l.filter fun u => !meets t u
def cF : Nat → List Tie → Nat → Nat
  | _, _, 0 => 1
  | 0, _, _ + 1 => 0
  | _ + 1, [], _ + 1 => 0
  | n + 1, t :: l, k + 1 => cF n l (k + 1) + cF n (away t l) k
/-- the number of pairings of k ties -/
def cM (l : List Tie) (k : Nat) : Nat := cF l.length l k
theorem away_len (t : Tie) (l : List Tie) : (away t l).length ≤ l.length := List.length_filter_le _ _
theorem cF_zero (n : Nat) (l : List Tie) : cF n l 0 = 1 := by cases n <;> rfl
theorem cF_any : ∀ (n m : Nat) (l : List Tie) (k : Nat), l.length ≤ n → l.length ≤ m → cF n l k = cF m l k
  | n, m, l, 0, _, _ => by rw [cF_zero, cF_zero]
  | 0, m, l, k + 1, h, _ => by
    have : l = [] := List.eq_nil_of_length_eq_zero (by omega)
    subst this
    cases m <;> rfl
  | n + 1, 0, l, k + 1, _, h => by
    have : l = [] := List.eq_nil_of_length_eq_zero (by omega)
    subst this
    rfl
  | n + 1, m + 1, [], k + 1, _, _ => rfl
  | n + 1, m + 1, t :: l, k + 1, h1, h2 => by
    have h1 : l.length ≤ n := by simpa using h1
    have h2 : l.length ≤ m := by simpa using h2
    have ha := away_len t l
    show cF n l (k + 1) + cF n (away t l) k = cF m l (k + 1) + cF m (away t l) k
    rw [cF_any n m l (k + 1) h1 h2, cF_any n m (away t l) k (by omega) (by omega)]
@[simp] theorem cM_zero (l : List Tie) : cM l 0 = 1 := cF_zero _ _
@[simp] theorem cM_nil (k : Nat) : cM [] (k + 1) = 0 := rfl
theorem cM_cons (t : Tie) (l : List Tie) (k : Nat) : cM (t :: l) (k + 1) = cM l (k + 1) + cM (away t l) k := by
  show cF l.length l (k + 1) + cF l.length (away t l) k = _
  rw [cF_any l.length (away t l).length (away t l) k (away_len t l) (Nat.le_refl _)]
  rfl
theorem meets_comm (t u : Tie) : meets t u = meets u t := by
  unfold meets tou
  rw [Bool.eq_iff_iff]
  simp only [Bool.or_eq_true, decide_eq_true_eq]
  omega
theorem away_perm {t : Tie} {l m : List Tie} (p : l.Perm m) : (away t l).Perm (away t m) := p.filter _
theorem away_away (t u : Tie) (l : List Tie) : away t (away u l) = away u (away t l) := by
  unfold away
  rw [List.filter_filter, List.filter_filter]
  congr 1
  funext x
  exact Bool.and_comm _ _
theorem cM_swap (t u : Tie) (l : List Tie) (k : Nat) : cM (t :: u :: l) k = cM (u :: t :: l) k := by
  cases k with
  | zero => rw [cM_zero, cM_zero]
  | succ k =>
    rw [cM_cons, cM_cons, cM_cons, cM_cons]
    have e : ∀ a b : Tie, away a (b :: l) = if meets a b = true then away a l else b :: away a l := fun a b => by
      unfold away
      rw [List.filter_cons]
      cases meets a b <;> simp
    rw [e t u, e u t, meets_comm u t]
    cases meets t u with
    | true => simp; omega
    | false =>
      simp only [Bool.false_eq_true, if_false]
      cases k with
      | zero => simp only [cM_zero]
      | succ k =>
        rw [cM_cons, cM_cons, away_away u t]
        omega
theorem cM_perm_n : ∀ (n : Nat) {l m : List Tie}, l.Perm m → l.length ≤ n → ∀ k, cM l k = cM m k := by
  intro n
  induction n with
  | zero =>
    intro l m p h k
    have : l = [] := List.eq_nil_of_length_eq_zero (by omega)
    subst this
    rw [List.nil_perm.mp p]
  | succ n ih =>
    intro l m p
    induction p with
    | nil => intro _ k; rfl
    | @cons x l m p _ =>
      intro h k
      have h : l.length ≤ n := by simpa using h
      cases k with
      | zero => rw [cM_zero, cM_zero]
      | succ k =>
        have ha := away_len x l
        rw [cM_cons, cM_cons, ih p h, ih (away_perm p) (by omega)]
    | swap x y l => intro _ k; exact cM_swap y x l k
    | trans p q i1 i2 =>
      intro h k
      rw [i1 h k, i2 (by rw [← p.length_eq]; exact h) k]
theorem cM_perm {l m : List Tie} (p : l.Perm m) (k : Nat) : cM l k = cM m k := cM_perm_n l.length p (Nat.le_refl _) k
theorem cM_big : ∀ (k : Nat) (l : List Tie), l.length < k → cM l k = 0
  | 0, _, h => absurd h (Nat.not_lt_zero _)
  | k + 1, [], _ => rfl
  | k + 1, t :: l, h => by
    have h : l.length < k := by simpa using h
    have ha := away_len t l
    rw [cM_cons, cM_big (k + 1) l (by omega), cM_big k (away t l) (by omega)]
/-- what holds x, what does not -/
def hold (x : Nat) (l : List Tie) : List Tie := l.filter fun t => tou x t
def off (x : Nat) (l : List Tie) : List Tie := l.filter fun t => !tou x t
theorem hold_off (x : Nat) (l : List Tie) : (hold x l ++ off x l).Perm l := List.filter_append_perm _ l
theorem meets_of {x : Nat} {t u : Tie} (h1 : tou x t = true) (h2 : tou x u = true) : meets t u = true := by
  unfold meets tou at *
  simp only [Bool.or_eq_true, decide_eq_true_eq] at *
  omega
theorem cM_star {x : Nat} : ∀ {A B : List Tie} {k : Nat}, (∀ t ∈ A, tou x t = true) → cM (A ++ B) (k + 1) = cM B (k + 1) + (A.map fun t => cM (away t B) k).sum
  | [], B, k, _ => by simp
  | t :: A, B, k, h => by
    have hA : away t A = [] := by
      unfold away
      rw [List.filter_eq_nil_iff]
      intro u hu
      rw [meets_of (h t (List.mem_cons_self ..)) (h u (List.mem_cons_of_mem _ hu))]
      simp
    have e : away t (A ++ B) = away t B := by
      unfold away at hA ⊢
      rw [List.filter_append, hA, List.nil_append]
    rw [List.cons_append, cM_cons, e, cM_star fun u hu => h u (List.mem_cons_of_mem _ hu), List.map_cons, List.sum_cons]
    omega
/-- by the ties at one place -/
theorem cM_at (x : Nat) (l : List Tie) (k : Nat) : cM l (k + 1) = cM (off x l) (k + 1) + ((hold x l).map fun t => cM (away t (off x l)) k).sum := by
  have e := @cM_star x (hold x l) (off x l) k fun t ht => (List.mem_filter.mp ht).2
  rw [← cM_perm (hold_off x l), e]
/-! ### all of them -/
def tF : Nat → List Tie → Nat
  | _, [] => 1
  | 0, _ :: _ => 1
  | n + 1, t :: l => tF n l + tF n (away t l)
def tM (l : List Tie) : Nat := tF l.length l
theorem tF_any : ∀ (n m : Nat) (l : List Tie), l.length ≤ n → l.length ≤ m → tF n l = tF m l
  | n, m, [], _, _ => by cases n <;> cases m <;> rfl
  | 0, m, t :: l, h, _ => by simp at h
  | n + 1, 0, t :: l, _, h => by simp at h
  | n + 1, m + 1, t :: l, h1, h2 => by
    have h1 : l.length ≤ n := by simpa using h1
    have h2 : l.length ≤ m := by simpa using h2
    have ha := away_len t l
    show tF n l + tF n (away t l) = tF m l + tF m (away t l)
    rw [tF_any n m l h1 h2, tF_any n m (away t l) (by omega) (by omega)]
theorem tM_cons (t : Tie) (l : List Tie) : tM (t :: l) = tM l + tM (away t l) := by
  show tF l.length l + tF l.length (away t l) = _
  rw [tF_any l.length (away t l).length (away t l) (away_len t l) (Nat.le_refl _)]
  rfl
/-- the sum of the first K -/
def sM (l : List Tie) (K : Nat) : Nat := ((List.range K).map (cM l)).sum
theorem sM_succ (l : List Tie) (K : Nat) : sM l (K + 1) = sM l K + cM l K := by
  unfold sM
  rw [List.range_succ, List.map_append, List.sum_append]
  simp
theorem sM_cons (t : Tie) (l : List Tie) : ∀ K, sM (t :: l) (K + 1) = sM l (K + 1) + sM (away t l) K
  | 0 => by simp [sM]
  | K + 1 => by
    rw [sM_succ, sM_cons t l K, sM_succ l (K + 1), sM_succ (away t l) K, cM_cons]
    omega
theorem sM_all : ∀ (n : Nat) (l : List Tie) (K : Nat), l.length ≤ n → l.length < K → sM l K = tM l
  | _, [], K + 1, _, _ => by
    have : ∀ K, sM [] (K + 1) = 1 := fun K => by
      induction K with
      | zero => rfl
      | succ K ih => rw [sM_succ, ih]; rfl
    rw [this]; rfl
  | 0, t :: l, K, h, _ => by simp at h
  | n + 1, t :: l, K + 1, h, hk => by
    have h : l.length ≤ n := by simpa using h
    have hk : l.length < K := by simpa using hk
    have ha := away_len t l
    rw [sM_cons, tM_cons, sM_all n l (K + 1) h (by omega), sM_all n (away t l) K (by omega) (by omega)]
/-- a list of counts: no 0 at its end -/
structure Row (r : List Nat) (f : Nat → Nat) : Prop where
  at_ : ∀ k, r.getD k 0 = f k
  ne : r ≠ []
  last : ∀ x, r.getLast? = some x → x ≠ 0
theorem Row.uniq {r q : List Nat} {f : Nat → Nat} (h : Row r f) (g : Row q f) : r = q := by
  have hl : ∀ {r q : List Nat}, Row r f → Row q f → r.length ≤ q.length := fun {r q} h g => by
    by_cases hlt : q.length < r.length
    · have h1 : r.getLast? = some (r[r.length - 1]'(by omega)) := by
        rw [List.getLast?_eq_getElem?]
        exact List.getElem?_eq_getElem _
      have h2 := h.last _ h1
      have h3 : r.getD (r.length - 1) 0 = q.getD (r.length - 1) 0 := (h.at_ _).trans (g.at_ _).symm
      rw [List.getD_eq_getElem?_getD, List.getD_eq_getElem?_getD, List.getElem?_eq_getElem (show r.length - 1 < r.length by omega), List.getElem?_eq_none (show q.length ≤ r.length - 1 by omega)] at h3
      exact absurd h3 h2
    · omega
  have e : r.length = q.length := Nat.le_antisymm (hl h g) (hl g h)
  refine List.ext_getElem e fun i h1 h2 => ?_
  have h3 : r.getD i 0 = q.getD i 0 := (h.at_ _).trans (g.at_ _).symm
  rw [List.getD_eq_getElem?_getD, List.getD_eq_getElem?_getD, List.getElem?_eq_getElem h1, List.getElem?_eq_getElem h2] at h3
  exact h3

/-! ### more ties, more pairings -/
theorem cM_sub : ∀ (n : Nat) {l m : List Tie}, m.length ≤ n → l.Sublist m → ∀ k, cM l k ≤ cM m k := by
  intro n
  induction n with
  | zero =>
    intro l m h s k
    have e : m = [] := List.eq_nil_of_length_eq_zero (by omega)
    subst e
    rw [List.sublist_nil.mp s]
    exact Nat.le_refl _
  | succ n ih =>
    intro l m h s k
    cases k with
    | zero => rw [cM_zero, cM_zero]; exact Nat.le_refl _
    | succ k =>
      cases s with
      | slnil => exact Nat.le_refl _
      | cons a s =>
        have h := Nat.le_of_succ_le_succ (show _ + 1 ≤ n + 1 from h)
        rw [cM_cons]
        have := ih h s (k + 1)
        omega
      | cons_cons a s =>
        rename_i l' m'
        have h : m'.length ≤ n := by simpa using h
        have ha := away_len a m'
        rw [cM_cons, cM_cons]
        have h1 := ih h s (k + 1)
        have h2 := ih (l := away a l') (m := away a m') (by omega) (s.filter _) k
        omega
theorem cM_le {l m : List Tie} (s : l.Sublist m) (k : Nat) : cM l k ≤ cM m k := cM_sub m.length (Nat.le_refl _) s k
theorem cM_down : ∀ (n : Nat) (l : List Tie), l.length ≤ n → ∀ k, 0 < cM l (k + 1) → 0 < cM l k
  | _, l, _, 0, _ => by rw [cM_zero]; decide
  | 0, l, h, k + 1, p => by
    have e : l = [] := List.eq_nil_of_length_eq_zero (by omega)
    subst e
    exact absurd p (by simp)
  | n + 1, [], _, k + 1, p => absurd p (by simp)
  | n + 1, t :: l, h, k + 1, p => by
    have h : l.length ≤ n := by simpa using h
    have ha := away_len t l
    rw [cM_cons] at p ⊢
    by_cases q : 0 < cM l (k + 1 + 1)
    · have := cM_down n l h (k + 1) q
      omega
    · have := cM_down n (away t l) (by omega) k (by omega)
      omega
theorem off_sub (x : Nat) (l : List Tie) : (off x l).Sublist l := List.filter_sublist
theorem off_len {x : Nat} {l : List Tie} (h : hold x l ≠ []) : (off x l).length < l.length := by
  have := (hold_off x l).length_eq
  rw [List.length_append] at this
  have h2 := List.length_pos_iff.mpr h
  omega
theorem off_none {x : Nat} {l : List Tie} (h : hold x l = []) : off x l = l := by
  unfold hold at h
  unfold off
  rw [List.filter_eq_self]
  intro t ht
  have := List.filter_eq_nil_iff.mp h t ht
  simpa using this
/-- the other end -/
def oth (x : Nat) (t : Tie) : Nat := if t.1 = x then t.2 else t.1
theorem away_off {x : Nat} {t : Tie} (h : tou x t = true) (l : List Tie) : away t (off x l) = off (oth x t) (off x l) := by
  unfold away off
  rw [List.filter_filter, List.filter_filter]
  refine List.filter_congr fun u _ => ?_
  rw [Bool.eq_iff_iff]
  unfold meets oth tou at *
  simp only [Bool.and_eq_true, Bool.not_eq_true', Bool.or_eq_false_iff, Bool.or_eq_true, decide_eq_false_iff_not, decide_eq_true_eq] at *
  split <;> omega
/-! ### log-concavity -/
def LC (f : Nat → Nat) : Prop := ∀ k, f k * f (k + 2) ≤ f (k + 1) * f (k + 1)
def HA (c b : Nat → Nat) : Prop := ∀ k, c (k + 1) * b k ≤ c k * b (k + 1)
def HB (c b : Nat → Nat) : Prop := ∀ k, c k * b (k + 2) ≤ c (k + 1) * b (k + 1)
theorem HA.sum {α : Type} {b : Nat → Nat} {c : α → Nat → Nat} : ∀ {l : List α}, (∀ x ∈ l, HA (c x) b) → HA (fun k => (l.map fun x => c x k).sum) b
  | [], _, k => by simp
  | x :: l, h, k => by
    have h1 := h x (List.mem_cons_self ..) k
    have h2 := HA.sum (c := c) (fun y hy => h y (List.mem_cons_of_mem _ hy)) k
    simp only [List.map_cons, List.sum_cons, Nat.add_mul] at h2 ⊢
    omega
theorem HB.sum {α : Type} {b : Nat → Nat} {c : α → Nat → Nat} : ∀ {l : List α}, (∀ x ∈ l, HB (c x) b) → HB (fun k => (l.map fun x => c x k).sum) b
  | [], _, k => by simp
  | x :: l, h, k => by
    have h1 := h x (List.mem_cons_self ..) k
    have h2 := HB.sum (c := c) (fun y hy => h y (List.mem_cons_of_mem _ hy)) k
    simp only [List.map_cons, List.sum_cons, Nat.add_mul] at h2 ⊢
    omega
theorem HA.step {a b s : Nat → Nat} (h0 : a 0 = b 0) (h : ∀ k, a (k + 1) = b (k + 1) + s k) (hB : HB s b) : HA b a := fun k => by
  cases k with
  | zero =>
    have e : a 1 = b 1 + s 0 := h 0
    show b 1 * a 0 ≤ b 0 * a 1
    rw [e, h0, Nat.mul_add, Nat.mul_comm (b 1) (b 0)]
    omega
  | succ k =>
    have h1 := hB k
    rw [h, h, Nat.mul_add, Nat.mul_add, Nat.mul_comm (b (k + 1 + 1)) (b (k + 1)), Nat.mul_comm (b (k + 1 + 1)) (s k), Nat.mul_comm (b (k + 1)) (s (k + 1))]
    have h1 : s k * b (k + 1 + 1) ≤ s (k + 1) * b (k + 1) := h1
    omega
theorem HB.step {a b s : Nat → Nat} (h : ∀ k, a (k + 1) = b (k + 1) + s k) (hA : HA s b) (lc : LC b) : HB b a := fun k => by
  have h1 := hA k
  have h2 := lc k
  have e : a (k + 2) = b (k + 2) + s (k + 1) := h (k + 1)
  rw [e, h, Nat.mul_add, Nat.mul_add, Nat.mul_comm (b k) (s (k + 1)), Nat.mul_comm (b (k + 1)) (s k)]
  omega
theorem LC.of {a b : Nat → Nat} (hA : HA b a) (hB : HB b a) (z : ∀ k, b (k + 1) = 0 → a (k + 2) = 0) (d : ∀ k, 0 < b (k + 1) → 0 < b k) : LC a := fun k => by
  by_cases hz : b (k + 1) = 0
  · rw [z k hz, Nat.mul_zero]; exact Nat.zero_le _
  · have p1 : 0 < b (k + 1) := Nat.pos_of_ne_zero hz
    have p0 := d k p1
    have h1 := Nat.mul_le_mul (hA k) (hB k)
    have e1 : b (k + 1) * a k * (b k * a (k + 2)) = (b k * b (k + 1)) * (a k * a (k + 2)) := by
      rw [Nat.mul_mul_mul_comm, Nat.mul_comm (b (k + 1)) (b k)]
    have e2 : b k * a (k + 1) * (b (k + 1) * a (k + 1)) = (b k * b (k + 1)) * (a (k + 1) * a (k + 1)) := by rw [Nat.mul_mul_mul_comm]
    rw [e1, e2] at h1
    exact Nat.le_of_mul_le_mul_left h1 (Nat.mul_pos p0 p1)
theorem lc_all : ∀ (n : Nat) (l : List Tie), l.length ≤ n → LC (cM l) ∧ ∀ u, HA (cM (off u l)) (cM l) ∧ HB (cM (off u l)) (cM l) := by
  intro n
  induction n with
  | zero =>
    intro l h
    have e : l = [] := List.eq_nil_of_length_eq_zero (by omega)
    subst e
    have e2 : ∀ u, off u [] = [] := fun u => rfl
    refine ⟨fun k => by simp, fun u => ?_⟩
    rw [e2]
    exact ⟨fun k => by simp, fun k => by simp⟩
  | succ n ih =>
    intro l h
    -- at a place that has a tie
    have at_ : ∀ u, hold u l ≠ [] → HA (cM (off u l)) (cM l) ∧ HB (cM (off u l)) (cM l) ∧ LC (cM l) := fun u hu => by
      have hl := off_len hu
      obtain ⟨lc, hh⟩ := ih (off u l) (by omega)
      have es : ∀ k, cM l (k + 1) = cM (off u l) (k + 1) + ((hold u l).map fun t => cM (off (oth u t) (off u l)) k).sum := fun k => by
        rw [cM_at u l k]
        congr 2
        refine List.map_congr_left fun t ht => ?_
        rw [away_off (List.mem_filter.mp ht).2]
      have sA : HA (fun k => ((hold u l).map fun t => cM (off (oth u t) (off u l)) k).sum) (cM (off u l)) := HA.sum (c := fun t k => cM (off (oth u t) (off u l)) k) fun t _ => (hh _).1
      have sB : HB (fun k => ((hold u l).map fun t => cM (off (oth u t) (off u l)) k).sum) (cM (off u l)) := HB.sum (c := fun t k => cM (off (oth u t) (off u l)) k) fun t _ => (hh _).2
      have a1 := HA.step (a := cM l) (by simp) es sB
      have b1 := HB.step es sA lc
      refine ⟨a1, b1, LC.of a1 b1 (fun k hz => ?_) fun k => cM_down _ _ (Nat.le_refl _) k⟩
      rw [es (k + 1)]
      have z1 : cM (off u l) (k + 1 + 1) = 0 := by
        by_cases p : 0 < cM (off u l) (k + 1 + 1)
        · have := cM_down _ _ (Nat.le_refl _) (k + 1) p
          omega
        · omega
      have z2 : ((hold u l).map fun t => cM (off (oth u t) (off u l)) (k + 1)).sum = 0 := by
        have : ∀ (A : List Tie), (A.map fun t => cM (off (oth u t) (off u l)) (k + 1)).sum = 0 := fun A => by
          induction A with
          | nil => rfl
          | cons t A ihA =>
            rw [List.map_cons, List.sum_cons, ihA]
            have := cM_le (off_sub (oth u t) (off u l)) (k + 1)
            omega
        exact this _
      omega
    have lc : LC (cM l) := by
      cases l with
      | nil => exact fun k => by simp
      | cons t l =>
        refine (at_ t.1 ?_).2.2
        unfold hold
        rw [List.filter_cons_of_pos (by simp [tou])]
        exact List.cons_ne_nil _ _
    refine ⟨lc, fun u => ?_⟩
    by_cases hu : hold u l = []
    · rw [off_none hu]
      exact ⟨fun k => by rw [Nat.mul_comm]; exact Nat.le_refl _, fun k => lc k⟩
    · exact ⟨(at_ u hu).1, (at_ u hu).2.1⟩
theorem cM_lc (l : List Tie) (k : Nat) : cM l k * cM l (k + 2) ≤ cM l (k + 1) * cM l (k + 1) := (lc_all l.length l (Nat.le_refl _)).1 k
end K44

set_option Elab.async false
set_option linter.all false
set_option maxRecDepth 100000
namespace K44
/-! ### two lots of ties that do not meet -/
theorem away_keep {t : Tie} {B : List Tie} (h : ∀ u ∈ B, meets t u = false) : away t B = B := by
  unfold away
  rw [List.filter_eq_self]
  intro u hu
  rw [h u hu]; rfl
theorem away_append (t : Tie) (A B : List Tie) : away t (A ++ B) = away t A ++ away t B := List.filter_append ..
theorem away_mem {t u : Tie} {A : List Tie} (h : u ∈ away t A) : u ∈ A := (List.mem_filter.mp h).1
theorem tM_mul : ∀ (n : Nat) {A B : List Tie}, A.length ≤ n → (∀ t ∈ A, ∀ u ∈ B, meets t u = false) → tM (A ++ B) = tM A * tM B
  | _, [], B, _, _ => by
    show tM B = 1 * tM B
    rw [Nat.one_mul]
  | 0, t :: A, B, h, _ => by simp at h
  | n + 1, t :: A, B, h, hd => by
    have h : A.length ≤ n := by simpa using h
    have ha := away_len t A
    have e : away t (A ++ B) = away t A ++ B := by rw [away_append, away_keep (hd t (List.mem_cons_self ..))]
    rw [List.cons_append, tM_cons, e, tM_mul n h fun u hu => hd u (List.mem_cons_of_mem _ hu),
      tM_mul n (A := away t A) (by omega) fun u hu => hd u (List.mem_cons_of_mem _ (away_mem hu)), tM_cons, Nat.add_mul]
/-- the product of two counts -/
def conv (f g : Nat → Nat) (k : Nat) : Nat := ((List.range (k + 1)).map fun i => f i * g (k - i)).sum
theorem sum_map_add {α : Type} (f g : α → Nat) : ∀ l : List α, (l.map fun x => f x + g x).sum = (l.map f).sum + (l.map g).sum
  | [] => rfl
  | x :: l => by
    simp only [List.map_cons, List.sum_cons]
    rw [sum_map_add f g l]
    omega
theorem conv_succ (f g : Nat → Nat) (k : Nat) : conv f g (k + 1) = f 0 * g (k + 1) + conv (fun i => f (i + 1)) g k := by
  unfold conv
  rw [List.range_succ_eq_map, List.map_cons, List.sum_cons, List.map_map]
  congr 2
  refine List.map_congr_left fun i _ => ?_
  simp only [Function.comp]
  congr 2
  omega
theorem conv_add (f f' g : Nat → Nat) (k : Nat) : conv (fun i => f i + f' i) g k = conv f g k + conv f' g k := by
  unfold conv
  rw [← sum_map_add]
  congr 1
  refine List.map_congr_left fun i _ => ?_
  rw [Nat.add_mul]
theorem cM_mul : ∀ (n : Nat) {A B : List Tie}, A.length ≤ n → (∀ t ∈ A, ∀ u ∈ B, meets t u = false) → ∀ k, cM (A ++ B) k = conv (cM A) (cM B) k
  | _, [], B, _, _, k => by
    show cM B k = _
    unfold conv
    rw [List.range_succ_eq_map, List.map_cons, List.sum_cons, List.map_map]
    have : ∀ m, ((List.range m).map ((fun i => cM [] i * cM B (k - i)) ∘ Nat.succ)).sum = 0 := fun m => by
      induction m with
      | zero => rfl
      | succ m ih =>
        rw [List.range_succ, List.map_append, List.sum_append, ih]
        simp
    rw [this]
    simp
  | 0, t :: A, B, h, _, _ => by simp at h
  | n + 1, t :: A, B, h, hd, k => by
    have h : A.length ≤ n := by simpa using h
    have ha := away_len t A
    have hA : ∀ u ∈ A, ∀ v ∈ B, meets u v = false := fun u hu => hd u (List.mem_cons_of_mem _ hu)
    have e : away t (A ++ B) = away t A ++ B := by rw [away_append, away_keep (hd t (List.mem_cons_self ..))]
    cases k with
    | zero => simp [conv]
    | succ k =>
      rw [List.cons_append, cM_cons, e, cM_mul n h hA, cM_mul n (A := away t A) (by omega) (fun u hu => hA u (away_mem hu)), conv_succ, conv_succ]
      have e2 : (fun i => cM (t :: A) (i + 1)) = fun i => cM A (i + 1) + cM (away t A) i := by
        funext i
        exact cM_cons t A i
      rw [e2, conv_add, cM_zero, cM_zero]
      omega
/-! ### as many as there are lots -/
theorem cM_two : ∀ (n : Nat) {A B : List Tie}, A.length ≤ n → ∀ k, cM A (k + 1) + cM B (k + 1) ≤ cM (A ++ B) (k + 1)
  | _, [], B, _, k => by simp
  | 0, t :: A, B, h, _ => by simp at h
  | n + 1, t :: A, B, h, k => by
    have h : A.length ≤ n := by simpa using h
    have h1 := cM_two n (B := B) h k
    rw [List.cons_append, cM_cons, cM_cons, away_append]
    have h2 := cM_le (List.sublist_append_left (away t A) (away t B)) k
    omega
/-- ties that do not meet are a pairing -/
theorem cM_full : ∀ {A : List Tie}, A.Pairwise (fun t u => meets t u = false) → 1 ≤ cM A A.length
  | [], _ => by simp
  | t :: A, h => by
    have h1 := List.pairwise_cons.mp h
    rw [List.length_cons, cM_cons, away_keep h1.1]
    have := cM_full h1.2
    omega
theorem cM_lots : ∀ {L : List (List Tie)} {m : Nat}, (∀ A ∈ L, A.length = m + 1 ∧ A.Pairwise fun t u => meets t u = false) → L.length ≤ cM L.flatten (m + 1)
  | [], m, _ => by simp
  | A :: L, m, h => by
    have h1 := h A (List.mem_cons_self ..)
    have h2 := cM_lots (L := L) (m := m) fun B hB => h B (List.mem_cons_of_mem _ hB)
    have h3 := cM_two A.length (A := A) (B := L.flatten) (Nat.le_refl _) m
    have h4 := cM_full h1.2
    rw [h1.1] at h4
    rw [List.flatten_cons, List.length_cons]
    omega
/-! ### other names -/
theorem cM_map : ∀ (n : Nat) {f : Tie → Tie} {l : List Tie}, l.length ≤ n → (∀ t ∈ l, ∀ u ∈ l, meets (f t) (f u) = meets t u) → ∀ k, cM (l.map f) k = cM l k
  | _, f, [], _, _, k => rfl
  | 0, f, t :: l, h, _, _ => by simp at h
  | n + 1, f, t :: l, h, hf, k => by
    have h : l.length ≤ n := by simpa using h
    have ha := away_len t l
    cases k with
    | zero => rw [cM_zero, cM_zero]
    | succ k =>
      have e : away (f t) (l.map f) = (away t l).map f := by
        unfold away
        rw [List.filter_map]
        congr 1
        refine List.filter_congr fun u hu => ?_
        simp only [Function.comp]
        rw [hf t (List.mem_cons_self ..) u (List.mem_cons_of_mem _ hu)]
      rw [List.map_cons, cM_cons, cM_cons, e, cM_map n h (fun x hx y hy => hf x (List.mem_cons_of_mem _ hx) y (List.mem_cons_of_mem _ hy)),
        cM_map n (l := away t l) (by omega) (fun x hx y hy => hf x (List.mem_cons_of_mem _ (away_mem hx)) y (List.mem_cons_of_mem _ (away_mem hy)))]
/-! ### rows -/
def addR (r q : List Nat) : List Nat := (List.range (max r.length q.length)).map fun k => r.getD k 0 + q.getD k 0
theorem addR_at (r q : List Nat) (k : Nat) : (addR r q).getD k 0 = r.getD k 0 + q.getD k 0 := by
  unfold addR
  rw [List.getD_eq_getElem?_getD, List.getElem?_map]
  by_cases h : k < max r.length q.length
  · rw [List.getElem?_range h]; rfl
  · rw [List.getElem?_eq_none (by simpa using Nat.le_of_not_lt h), List.getD_eq_getElem?_getD, List.getD_eq_getElem?_getD, List.getElem?_eq_none (show r.length ≤ k by omega), List.getElem?_eq_none (show q.length ≤ k by omega)]
    rfl
theorem last_getD {r : List Nat} (h : r ≠ []) : r.getLast? = some (r.getD (r.length - 1) 0) := by
  have hp := List.length_pos_iff.mpr h
  rw [List.getLast?_eq_getElem?, List.getD_eq_getElem?_getD, List.getElem?_eq_getElem (show r.length - 1 < r.length by omega)]
  rfl
theorem Row.top {r : List Nat} {f : Nat → Nat} (h : Row r f) : f (r.length - 1) ≠ 0 := by
  have := h.last _ (last_getD h.ne)
  rw [h.at_] at this
  exact this
theorem Row.out {r : List Nat} {f : Nat → Nat} (h : Row r f) {k : Nat} (hk : r.length ≤ k) : f k = 0 := by
  rw [← h.at_, List.getD_eq_getElem?_getD, List.getElem?_eq_none hk]; rfl
theorem Row.of {r : List Nat} {f : Nat → Nat} (h : ∀ k, r.getD k 0 = f k) (hne : r ≠ []) (ht : f (r.length - 1) ≠ 0) : Row r f :=
  ⟨h, hne, fun x e => by
    rw [last_getD hne] at e
    cases e
    rw [h]; exact ht⟩
theorem Row.add {r q : List Nat} {f g : Nat → Nat} (h : Row r f) (h' : Row q g) : Row (addR r q) fun k => f k + g k := by
  have p1 := List.length_pos_iff.mpr h.ne
  have p2 := List.length_pos_iff.mpr h'.ne
  have e : (addR r q).length = max r.length q.length := by simp [addR]
  refine Row.of (fun k => by rw [addR_at, h.at_, h'.at_]) (fun z => ?_) ?_
  · rw [z] at e
    simp at e; omega
  · rw [e]
    have t1 := h.top
    have t2 := h'.top
    by_cases hl : r.length ≤ q.length
    · rw [Nat.max_eq_right hl]; omega
    · rw [Nat.max_eq_left (by omega)]; omega
def shf (f : Nat → Nat) : Nat → Nat
  | 0 => 0
  | k + 1 => f k
theorem Row.shift {r : List Nat} {f : Nat → Nat} (h : Row r f) : Row (0 :: r) (shf f) := by
  have p1 := List.length_pos_iff.mpr h.ne
  refine Row.of (fun k => ?_) (List.cons_ne_nil _ _) ?_
  · cases k with
    | zero => rfl
    | succ k => exact h.at_ k
  · have t := h.top
    have e : (0 :: r).length - 1 = (r.length - 1) + 1 := by simp; omega
    rw [e]
    exact t
theorem Row.one : Row [1] (cM []) := Row.of (fun k => by cases k <;> rfl) (List.cons_ne_nil _ _) (by simp)
theorem Row.congr {r : List Nat} {f g : Nat → Nat} (h : Row r f) (e : ∀ k, f k = g k) : Row r g := by
  have : f = g := funext e
  rw [← this]; exact h
theorem Row.sum {r : List Nat} {l : List Tie} (h : Row r (cM l)) : r.sum = tM l := by
  have e : ∀ K, r.length ≤ K → sM l K = r.sum := fun K hK => by
    unfold sM
    have e1 : (List.range K).map (cM l) = r ++ List.replicate (K - r.length) 0 := by
      refine List.ext_getElem (by simp; omega) fun i h1 h2 => ?_
      have hi : i < K := by simpa using h1
      rw [List.getElem_map, List.getElem_range, ← h.at_ i, List.getD_eq_getElem?_getD]
      by_cases hr : i < r.length
      · rw [List.getElem?_eq_getElem hr, List.getElem_append_left hr]; rfl
      · rw [List.getElem?_eq_none (by omega), List.getElem_append_right (by omega), List.getElem_replicate]; rfl
    rw [e1, List.sum_append]
    simp
  have := e (max r.length (l.length + 1)) (by omega)
  rw [← this, sM_all l.length l _ (Nat.le_refl _) (by omega)]
end K44

set_option Elab.async false
set_option linter.all false
set_option maxRecDepth 100000
namespace K44
/-! ### the pairings themselves, as ascending lists of numbers -/
abbrev TI := Tie × Nat
def awayP (p : TI) (q : List TI) : List TI := q.filter fun u => !meets p.1 u.1
def insN (x : Nat) : List Nat → List Nat
  | [] => [x]
  | y :: l => if y < x then y :: insN x l else x :: y :: l
theorem insN_comm (x y : Nat) : ∀ l, insN x (insN y l) = insN y (insN x l)
  | [] => by
    unfold insN insN
    by_cases h1 : y < x
    · have h2 : ¬ x < y := by omega
      simp [h1, h2]
    · by_cases h2 : x < y
      · simp [h1, h2]
      · have : x = y := by omega
        subst this; rfl
  | z :: l => by
    have ih := insN_comm x y l
    by_cases hx : z < x
    · by_cases hy : z < y
      · simp [insN, hx, hy, ih]
      · have : y < x := by omega
        have h2 : ¬ x < y := by omega
        simp [insN, hx, hy, this]
    · by_cases hy : z < y
      · have : x < y := by omega
        simp [insN, hx, hy, this]
      · by_cases h1 : y < x
        · have h2 : ¬ x < y := by omega
          simp [insN, hx, hy, h1, h2]
        · by_cases h2 : x < y
          · simp [insN, hx, hy, h1, h2]
          · have : x = y := by omega
            subst this; rfl
theorem insN_perm (x : Nat) : ∀ l, (insN x l).Perm (x :: l)
  | [] => List.Perm.refl _
  | y :: l => by
    unfold insN
    split
    · exact ((insN_perm x l).cons y).trans (List.Perm.swap x y l)
    · exact List.Perm.refl _
theorem insN_len (x : Nat) (l : List Nat) : (insN x l).length = l.length + 1 := by rw [(insN_perm x l).length_eq, List.length_cons]
def pl : Nat → List TI → List (List Nat)
  | _, [] => [[]]
  | 0, _ :: _ => [[]]
  | n + 1, p :: q => pl n q ++ (pl n (awayP p q)).map (insN p.2)
def PL (q : List TI) : List (List Nat) := pl q.length q
theorem awayP_len (p : TI) (q : List TI) : (awayP p q).length ≤ q.length := List.length_filter_le _ _
theorem pl_any : ∀ (n m : Nat) (q : List TI), q.length ≤ n → q.length ≤ m → pl n q = pl m q
  | n, m, [], _, _ => by cases n <;> cases m <;> rfl
  | 0, m, p :: q, h, _ => by simp at h
  | n + 1, 0, p :: q, _, h => by simp at h
  | n + 1, m + 1, p :: q, h1, h2 => by
    have h1 : q.length ≤ n := by simpa using h1
    have h2 : q.length ≤ m := by simpa using h2
    have ha := awayP_len p q
    show pl n q ++ (pl n (awayP p q)).map (insN p.2) = pl m q ++ (pl m (awayP p q)).map (insN p.2)
    rw [pl_any n m q h1 h2, pl_any n m (awayP p q) (by omega) (by omega)]
theorem PL_nil : PL [] = [[]] := rfl
theorem PL_cons (p : TI) (q : List TI) : PL (p :: q) = PL q ++ (PL (awayP p q)).map (insN p.2) := by
  show pl q.length q ++ (pl q.length (awayP p q)).map (insN p.2) = _
  rw [pl_any q.length (awayP p q).length (awayP p q) (awayP_len p q) (Nat.le_refl _)]
  rfl
theorem awayP_perm {p : TI} {q r : List TI} (h : q.Perm r) : (awayP p q).Perm (awayP p r) := h.filter _
theorem awayP_awayP (p r : TI) (q : List TI) : awayP p (awayP r q) = awayP r (awayP p q) := by
  unfold awayP
  rw [List.filter_filter, List.filter_filter]
  congr 1
  funext x
  exact Bool.and_comm _ _
theorem PL_swap (p r : TI) (q : List TI) : (PL (p :: r :: q)).Perm (PL (r :: p :: q)) := by
  rw [PL_cons, PL_cons, PL_cons r (p :: q), PL_cons]
  have e : ∀ a b : TI, awayP a (b :: q) = if meets a.1 b.1 = true then awayP a q else b :: awayP a q := fun a b => by
    unfold awayP
    rw [List.filter_cons]
    cases meets a.1 b.1 <;> simp
  rw [e p r, e r p, meets_comm r.1 p.1]
  have sw : ∀ a b c : List (List Nat), (a ++ b ++ c).Perm (a ++ c ++ b) := fun a b c => by
    rw [List.append_assoc, List.append_assoc]
    exact List.Perm.append_left _ List.perm_append_comm
  cases meets p.1 r.1 with
  | true =>
    simp only [if_true]
    exact sw _ _ _
  | false =>
    simp only [Bool.false_eq_true, if_false]
    rw [PL_cons, PL_cons, List.map_append, List.map_append, List.map_map, List.map_map, awayP_awayP r p]
    have ec : (insN p.2 ∘ insN r.2) = (insN r.2 ∘ insN p.2) := funext fun l => insN_comm p.2 r.2 l
    rw [ec, ← List.append_assoc, ← List.append_assoc]
    exact List.Perm.append_right _ (sw _ _ _)
theorem PL_perm_n : ∀ (n : Nat) {q r : List TI}, q.Perm r → q.length ≤ n → (PL q).Perm (PL r) := by
  intro n
  induction n with
  | zero =>
    intro l m p h
    have : l = [] := List.eq_nil_of_length_eq_zero (by omega)
    subst this
    rw [List.nil_perm.mp p]
  | succ n ih =>
    intro l m p
    induction p with
    | nil => intro _; exact List.Perm.refl _
    | @cons x l m p _ =>
      intro h
      have h : l.length ≤ n := by simpa using h
      have ha := awayP_len x l
      rw [PL_cons, PL_cons]
      exact (ih p h).append ((ih (awayP_perm p) (by omega)).map _)
    | swap x y l => intro _; exact PL_swap y x l
    | trans p q i1 i2 =>
      intro h
      exact (i1 h).trans (i2 (by rw [← p.length_eq]; exact h))
theorem PL_perm {q r : List TI} (p : q.Perm r) : (PL q).Perm (PL r) := PL_perm_n q.length p (Nat.le_refl _)
theorem map_away (p : TI) (q : List TI) : (awayP p q).map (·.1) = away p.1 (q.map (·.1)) := by
  unfold awayP away
  rw [List.filter_map]
  rfl
/-- as many as are counted -/
theorem PL_count : ∀ (n : Nat) (q : List TI), q.length ≤ n → ∀ k, ((PL q).filter fun s => decide (s.length = k)).length = cM (q.map (·.1)) k
  | _, [], _, k => by cases k <;> rfl
  | 0, p :: q, h, _ => by simp at h
  | n + 1, p :: q, h, k => by
    have h : q.length ≤ n := by simpa using h
    have ha := awayP_len p q
    rw [PL_cons, List.filter_append, List.length_append, PL_count n q h, List.map_cons]
    rw [List.filter_map, List.length_map]
    cases k with
    | zero =>
      have e : (PL (awayP p q)).filter ((fun s : List Nat => decide (s.length = 0)) ∘ insN p.2) = [] := by
        rw [List.filter_eq_nil_iff]
        intro s _ z
        have h1 := insN_len p.2 s
        simp only [Function.comp, decide_eq_true_eq] at z
        omega
      rw [e, cM_zero, cM_zero]; rfl
    | succ k =>
      have e : ((fun s : List Nat => decide (s.length = k + 1)) ∘ insN p.2) = fun s => decide (s.length = k) := by
        funext s
        simp [Function.comp, insN_len]
      rw [e, PL_count n (awayP p q) (by omega), cM_cons, map_away]
theorem PL_len : ∀ (n : Nat) (q : List TI), q.length ≤ n → (PL q).length = tM (q.map (·.1))
  | _, [], _ => rfl
  | 0, p :: q, h => by simp at h
  | n + 1, p :: q, h => by
    have h : q.length ≤ n := by simpa using h
    have ha := awayP_len p q
    rw [PL_cons, List.length_append, List.length_map, PL_len n q h, PL_len n (awayP p q) (by omega), List.map_cons, tM_cons, map_away]
theorem tM_pow : ∀ (n : Nat) (l : List Tie), l.length ≤ n → tM l ≤ 2 ^ n
  | n, [], _ => Nat.one_le_two_pow
  | 0, t :: l, h => by simp at h
  | n + 1, t :: l, h => by
    have h : l.length ≤ n := by simpa using h
    have ha := away_len t l
    have h1 := tM_pow n l h
    have h2 := tM_pow n (away t l) (by omega)
    rw [tM_cons, Nat.pow_succ]
    omega
theorem tM_pos : ∀ (n : Nat) (l : List Tie), l.length ≤ n → 1 ≤ tM l
  | _, [], _ => Nat.le_refl _
  | 0, t :: l, h => by simp at h
  | n + 1, t :: l, h => by
    have h : l.length ≤ n := by simpa using h
    have := tM_pos n l h
    rw [tM_cons]; omega
/-! by the ties at one place -/
def holdP (x : Nat) (q : List TI) : List TI := q.filter fun p => tou x p.1
def offP (x : Nat) (q : List TI) : List TI := q.filter fun p => !tou x p.1
theorem PL_star {x : Nat} : ∀ {A B : List TI}, (∀ p ∈ A, tou x p.1 = true) → (PL (A ++ B)).Perm (PL B ++ A.flatMap fun p => (PL (awayP p B)).map (insN p.2))
  | [], B, _ => by simp
  | p :: A, B, h => by
    have hA : awayP p A = [] := by
      unfold awayP
      rw [List.filter_eq_nil_iff]
      intro u hu
      rw [meets_of (h p (List.mem_cons_self ..)) (h u (List.mem_cons_of_mem _ hu))]
      simp
    have e : awayP p (A ++ B) = awayP p B := by
      unfold awayP at hA ⊢
      rw [List.filter_append, hA, List.nil_append]
    rw [List.cons_append, PL_cons, e, List.flatMap_cons]
    have ih := PL_star (A := A) (B := B) fun u hu => h u (List.mem_cons_of_mem _ hu)
    refine (ih.append_right _).trans ?_
    rw [List.append_assoc]
    exact List.Perm.append_left _ List.perm_append_comm
theorem PL_at (x : Nat) (q : List TI) : (PL q).Perm (PL (offP x q) ++ (holdP x q).flatMap fun p => (PL (awayP p (offP x q))).map (insN p.2)) := by
  have e : (holdP x q ++ offP x q).Perm q := List.filter_append_perm _ q
  exact (PL_perm e.symm).trans (PL_star fun p hp => (List.mem_filter.mp hp).2)
theorem tM_at (x : Nat) (q : List TI) : tM (q.map (·.1)) = tM ((offP x q).map (·.1)) + ((holdP x q).map fun p => tM ((awayP p (offP x q)).map (·.1))).sum := by
  rw [← PL_len q.length q (Nat.le_refl _), (PL_at x q).length_eq, List.length_append, PL_len _ _ (Nat.le_refl _)]
  congr 1
  rw [List.length_flatMap]
  congr 1
  refine List.map_congr_left fun p _ => ?_
  rw [List.length_map, PL_len _ _ (Nat.le_refl _)]
/-! no more than there are places -/
def wthn (left : List Nat) (q : List TI) : List TI := q.filter fun p => left.contains p.1.1 && left.contains p.1.2
def outs (left : List Nat) (t : Tie) : List Nat := left.filter fun x => !tou x t
theorem outs_len {left : List Nat} (hn : left.Nodup) {t : Tie} (h1 : t.1 ∈ left) (h2 : t.2 ∈ left) (h3 : t.1 ≠ t.2) : (outs left t).length + 2 = left.length := by
  have key : ∀ {l : List Nat}, l.Nodup → ∀ {x : Nat}, x ∈ l → (l.filter fun y => !decide (x = y)).length + 1 = l.length := fun {l} hn {x} hx => by
    induction l with
    | nil => cases hx
    | cons a l ih =>
      have hn' := List.nodup_cons.mp hn
      by_cases e : x = a
      · subst e
        have : l.filter (fun y => !decide (x = y)) = l := by
          rw [List.filter_eq_self]
          intro y hy
          have : x ≠ y := fun z => by subst z; exact hn'.1 hy
          simp [this]
        rw [List.filter_cons]
        simp [this]
      · have hx' : x ∈ l := by
          rcases List.mem_cons.mp hx with z | z
          · exact absurd z e
          · exact z
        have := ih hn'.2 hx'
        rw [List.filter_cons]
        simp [e]
        omega
  have k1 := key hn h1
  have k2 := key (l := left.filter fun y => !decide (t.1 = y)) (hn.filter _) (x := t.2) (List.mem_filter.mpr ⟨h2, by simp [h3]⟩)
  rw [List.filter_filter] at k2
  have e : (left.filter fun a => !decide (t.2 = a) && !decide (t.1 = a)) = outs left t := by
    unfold outs tou
    refine List.filter_congr fun x _ => ?_
    rw [Bool.eq_iff_iff]
    simp only [Bool.and_eq_true, Bool.not_eq_true', Bool.or_eq_false_iff, decide_eq_false_iff_not]
    exact And.comm
  rw [e] at k2
  omega
theorem PL_half : ∀ (n : Nat) (q : List TI) (left : List Nat), q.length ≤ n → left.Nodup → (∀ p ∈ q, p.1.1 ∈ left ∧ p.1.2 ∈ left ∧ p.1.1 ≠ p.1.2) → ∀ s ∈ PL q, 2 * s.length ≤ left.length
  | _, [], left, _, _, _, s, hs => by
    rw [PL_nil] at hs
    have : s = [] := by simpa using hs
    subst this
    simp
  | 0, p :: q, _, h, _, _, _, _ => by simp at h
  | n + 1, p :: q, left, h, hn, hq, s, hs => by
    have h : q.length ≤ n := by simpa using h
    have ha := awayP_len p q
    rw [PL_cons] at hs
    rcases List.mem_append.mp hs with hs | hs
    · exact PL_half n q left h hn (fun r hr => hq r (List.mem_cons_of_mem _ hr)) s hs
    · obtain ⟨r, hr, rfl⟩ := List.mem_map.mp hs
      obtain ⟨b1, b2, b3⟩ := hq p (List.mem_cons_self ..)
      have ho := outs_len hn b1 b2 b3
      have := PL_half n (awayP p q) (outs left p.1) (by omega) (hn.filter _) (fun u hu => by
        obtain ⟨u1, u2⟩ := List.mem_filter.mp hu
        obtain ⟨c1, c2, c3⟩ := hq u (List.mem_cons_of_mem _ u1)
        unfold meets at u2
        simp only [Bool.not_eq_true', Bool.or_eq_false_iff] at u2
        unfold tou at u2
        simp only [Bool.or_eq_false_iff, decide_eq_false_iff_not] at u2
        refine ⟨List.mem_filter.mpr ⟨c1, ?_⟩, List.mem_filter.mpr ⟨c2, ?_⟩, c3⟩
        · unfold tou
          simp only [Bool.not_eq_true', Bool.or_eq_false_iff, decide_eq_false_iff_not]
          omega
        · unfold tou
          simp only [Bool.not_eq_true', Bool.or_eq_false_iff, decide_eq_false_iff_not]
          omega) r hr
      rw [insN_len]
      omega
end K44

set_option Elab.async false
set_option linter.all false
set_option maxRecDepth 100000
namespace K44
/-! ### all pairings, tie by tie -/
def tieAt (l : List Tie) (j : Nat) : Tie := l.getD j (0, 0)
def okP (l : List Tie) (t : Tie) (s : List Nat) : Bool := s.all fun j => !meets t (tieAt l j)
def ext (l : List Tie) : List TI → List Nat → List (List Nat)
  | [], s => [s]
  | p :: q, s => ext l q s ++ if okP l p.1 s = true then ext l q (s ++ [p.2]) else []
def apS (l : List Tie) (found : List (List Nat)) (p : TI) : List (List Nat) := found ++ (found.filter (okP l p.1)).map fun s => s ++ [p.2]
def allP (l : List Tie) : List (List Nat) := l.zipIdx.foldl (apS l) [[]]
theorem flatMap_filter_perm {l : List Tie} {p : TI} {q : List TI} : ∀ L : List (List Nat), ((apS l L p).flatMap (ext l q)).Perm (L.flatMap (ext l (p :: q)))
  | [] => List.Perm.refl _
  | s :: L => by
    have ih := flatMap_filter_perm (l := l) (p := p) (q := q) L
    unfold apS at ih ⊢
    rw [List.flatMap_append] at ih ⊢
    rw [List.flatMap_cons, List.flatMap_cons, List.filter_cons]
    have e : ext l (p :: q) s = ext l q s ++ if okP l p.1 s = true then ext l q (s ++ [p.2]) else [] := rfl
    rw [e]
    by_cases h : okP l p.1 s = true
    · rw [if_pos h, if_pos h, List.map_cons, List.flatMap_cons]
      refine List.Perm.trans ?_ (List.Perm.append_left _ ih)
      rw [List.append_assoc, List.append_assoc]
      refine List.Perm.append_left _ ?_
      rw [← List.append_assoc, ← List.append_assoc]
      exact List.Perm.append_right _ List.perm_append_comm
    · rw [if_neg h, if_neg h, List.append_nil, List.append_assoc]
      exact List.Perm.append_left _ ih
theorem fold_ext {l : List Tie} : ∀ (q : List TI) (L : List (List Nat)), (q.foldl (apS l) L).Perm (L.flatMap (ext l q))
  | [], L => by
    have : L.flatMap (ext l []) = L := by
      induction L with
      | nil => rfl
      | cons s L ih => rw [List.flatMap_cons, ih]; rfl
    rw [this]
    exact List.Perm.refl _
  | p :: q, L => by
    rw [List.foldl_cons]
    exact (fold_ext q _).trans (flatMap_filter_perm L)
theorem allP_ext (l : List Tie) : (allP l).Perm (ext l l.zipIdx []) := by
  have := fold_ext (l := l) l.zipIdx [[]]
  unfold allP
  simpa using this
theorem PL_mem : ∀ (n : Nat) (q : List TI), q.length ≤ n → ∀ s ∈ PL q, ∀ x ∈ s, x ∈ q.map (·.2)
  | _, [], _, s, hs, x, hx => by
    rw [PL_nil] at hs
    have : s = [] := by simpa using hs
    subst this
    cases hx
  | 0, p :: q, h, _, _, _, _ => by simp at h
  | n + 1, p :: q, h, s, hs, x, hx => by
    have h : q.length ≤ n := by simpa using h
    have ha := awayP_len p q
    rw [PL_cons] at hs
    rw [List.map_cons]
    rcases List.mem_append.mp hs with hs | hs
    · exact List.mem_cons_of_mem _ (PL_mem n q h s hs x hx)
    · obtain ⟨r, hr, rfl⟩ := List.mem_map.mp hs
      rcases List.mem_cons.mp ((insN_perm p.2 r).mem_iff.mp hx) with rfl | hx
      · exact List.mem_cons_self ..
      · have := PL_mem n (awayP p q) (by omega) r hr x hx
        obtain ⟨u, hu, e⟩ := List.mem_map.mp this
        exact List.mem_cons_of_mem _ (List.mem_map.mpr ⟨u, (List.mem_filter.mp hu).1, e⟩)
theorem insN_front {x : Nat} : ∀ {r : List Nat}, (∀ y ∈ r, x < y) → insN x r = x :: r
  | [], _ => rfl
  | y :: r, h => by
    have := h y (List.mem_cons_self ..)
    unfold insN
    rw [if_neg (by omega)]
theorem ext_PL {l : List Tie} : ∀ (q : List TI) (s : List Nat), (∀ p ∈ q, tieAt l p.2 = p.1) → q.Pairwise (fun a b => a.2 < b.2) → (ext l q s).Perm ((PL (q.filter fun p => okP l p.1 s)).map fun r => s ++ r)
  | [], s, _, _ => by
    show [s].Perm ([[]].map fun r => s ++ r)
    simp
  | p :: q, s, hq, ha => by
    have ha' := List.pairwise_cons.mp ha
    have hq' : ∀ u ∈ q, tieAt l u.2 = u.1 := fun u hu => hq u (List.mem_cons_of_mem _ hu)
    have i1 := ext_PL q s hq' ha'.2
    show (ext l q s ++ if okP l p.1 s = true then ext l q (s ++ [p.2]) else []).Perm _
    rw [List.filter_cons]
    by_cases h : okP l p.1 s = true
    · rw [if_pos h, if_pos h, PL_cons, List.map_append]
      refine i1.append ?_
      have i2 := ext_PL q (s ++ [p.2]) hq' ha'.2
      have e : (q.filter fun u => okP l u.1 (s ++ [p.2])) = awayP p (q.filter fun u => okP l u.1 s) := by
        unfold awayP
        rw [List.filter_filter]
        refine List.filter_congr fun u hu => ?_
        unfold okP
        rw [List.all_append]
        simp only [List.all_cons, List.all_nil, Bool.and_true]
        rw [hq p (List.mem_cons_self ..), meets_comm u.1 p.1, Bool.and_comm]
      rw [e] at i2
      refine i2.trans (List.Perm.of_eq ?_)
      rw [List.map_map]
      refine List.map_congr_left fun r hr => ?_
      have : insN p.2 r = p.2 :: r := insN_front fun y hy => by
        have := PL_mem _ _ (Nat.le_refl _) r hr y hy
        obtain ⟨u, hu, rfl⟩ := List.mem_map.mp this
        exact ha'.1 u (List.mem_filter.mp (List.mem_filter.mp hu).1).1
      simp only [Function.comp, this]
      simp
    · rw [if_neg h, if_neg h, List.append_nil]
      exact i1
theorem zi_at (l : List Tie) : ∀ p ∈ l.zipIdx, tieAt l p.2 = p.1 := fun p hp => by
  have := List.mem_zipIdx hp
  obtain ⟨h1, h2, h3⟩ := this
  unfold tieAt
  rw [List.getD_eq_getElem?_getD, List.getElem?_eq_getElem (by omega)]
  simp at h3 ⊢
  exact h3.symm
theorem zi_asc : ∀ (l : List Tie) (s : Nat), (l.zipIdx s).Pairwise (fun a b => a.2 < b.2)
  | [], _ => List.Pairwise.nil
  | t :: l, s => by
    rw [List.zipIdx_cons]
    refine List.pairwise_cons.mpr ⟨fun p hp => ?_, zi_asc l (s + 1)⟩
    have := (List.mem_zipIdx hp).1
    show s < p.2
    omega
theorem allP_PL (l : List Tie) : (allP l).Perm (PL l.zipIdx) := by
  refine (allP_ext l).trans ((ext_PL l.zipIdx [] (zi_at l) (zi_asc l 0)).trans (List.Perm.of_eq ?_))
  have e : (l.zipIdx.filter fun p => okP l p.1 []) = l.zipIdx := by
    rw [List.filter_eq_self]
    intro p _
    rfl
  rw [e]
  simp
theorem zi_map (l : List Tie) : l.zipIdx.map (·.1) = l := by
  have : ∀ s, (l.zipIdx s).map (·.1) = l := by
    induction l with
    | nil => intro s; rfl
    | cons t l ih => intro s; rw [List.zipIdx_cons, List.map_cons, ih]
  exact this 0
theorem allP_len (l : List Tie) : (allP l).length = tM l := by
  rw [(allP_PL l).length_eq, PL_len _ _ (Nat.le_refl _), zi_map]
theorem allP_count (l : List Tie) (k : Nat) : ((allP l).filter fun s => decide (s.length = k)).length = cM l k := by
  rw [((allP_PL l).filter _).length_eq, PL_count _ _ (Nat.le_refl _), zi_map]
/-! the same, from a stack -/
def kid (l : List Tie) (s : List Nat) (i : Nat) : Option (List Nat × Nat) := if okP l (tieAt l i) s = true then some (s ++ [i], i + 1) else none
def rst (l : List Tie) (w : List Nat × Nat) : List (List Nat) := ext l (l.zipIdx.drop w.2) w.1
theorem rst_kids (l : List Tie) (s : List Nat) : ∀ (n f : Nat), f + n = l.length → (rst l (s, f)).Perm ([s] ++ (((List.range' f n).filterMap (kid l s)).flatMap (rst l)))
  | 0, f, h => by
    have e : l.zipIdx.drop f = [] := List.drop_eq_nil_of_le (by simp; omega)
    unfold rst
    simp only [e]
    exact List.Perm.refl _
  | n + 1, f, h => by
    have hf : f < l.zipIdx.length := by simp; omega
    have e : l.zipIdx.drop f = (tieAt l f, f) :: l.zipIdx.drop (f + 1) := by
      rw [List.drop_eq_getElem_cons hf]
      congr 1
      rw [List.getElem_zipIdx]
      unfold tieAt
      rw [List.getD_eq_getElem?_getD, List.getElem?_eq_getElem (by omega)]
      simp
    have ih := rst_kids l s n (f + 1) (by omega)
    have e2 : rst l (s, f) = rst l (s, f + 1) ++ if okP l (tieAt l f) s = true then rst l (s ++ [f], f + 1) else [] := by
      unfold rst
      simp only [e]
      rfl
    rw [e2, List.range'_succ, List.filterMap_cons]
    by_cases h : okP l (tieAt l f) s = true
    · have ek : kid l s f = some (s ++ [f], f + 1) := by unfold kid; rw [if_pos h]
      rw [if_pos h, ek, List.flatMap_cons]
      refine (ih.append_right _).trans ?_
      rw [List.append_assoc]
      exact List.Perm.append_left _ List.perm_append_comm
    · have ek : kid l s f = none := by unfold kid; rw [if_neg h]
      rw [if_neg h, ek, List.append_nil]
      exact ih
theorem rst_pos (l : List Tie) (w : List Nat × Nat) : 1 ≤ (rst l w).length := by
  have : ∀ (q : List TI) (s : List Nat), 1 ≤ (ext l q s).length := fun q => by
    induction q with
    | nil => intro s; exact Nat.le_refl _
    | cons p q ih =>
      intro s
      show 1 ≤ (ext l q s ++ _).length
      rw [List.length_append]
      have := ih s
      omega
  exact this _ _
theorem flat_len {l : List Tie} : ∀ W : List (List Nat × Nat), W.length ≤ (W.flatMap (rst l)).length
  | [] => Nat.le_refl _
  | w :: W => by
    rw [List.flatMap_cons, List.length_append, List.length_cons]
    have h1 := rst_pos l w
    have h2 := flat_len (l := l) W
    omega
end K44

set_option Elab.async false
set_option linter.all false
set_option maxRecDepth 100000
set_option maxHeartbeats 0
namespace K44
open PySem PySem.Spec PyProof.Rows L2 Z
def tieT (t : Tie) : T := .tup [.int t.1, .int t.2]
def tiesT (l : List Tie) : List T := l.map tieT
def webT (n : Nat) (l : List Tie) : T := .tup [.int n, .tup (tiesT l)]
def lxT (a b : Tie) : Bool := decide (a.1 < b.1) || (decide (a.1 = b.1) && decide (a.2 ≤ b.2))
/-- a web of the law: places, ties in sequence -/
structure WebOk (n : Nat) (l : List Tie) : Prop where
  n0 : 1 ≤ n
  n1 : n ≤ 10
  le : l.length ≤ 20
  tie : ∀ t ∈ l, t.1 < t.2 ∧ t.2 < n
  srt : l.Pairwise fun a b => lxT a b = true
@[simp] def s_is_pair (ts : List T) (P : T → Md → Prop) : Prop := match ts with
  | [.tup [_, _]] => P (.bl true) .sh
  | _ => False
@[simp] def s_is_whole (ts : List T) (P : T → Md → Prop) : Prop := match ts with
  | [.int _] => P (.bl true) .sh
  | _ => False
@[simp] def s_is_within (ts : List T) (P : T → Md → Prop) : Prop := match ts with
  | [.int v, .int l, .int m] => l ≤ v ∧ v ≤ m ∧ P (.bl true) .sh
  | _ => False
def s_is_tie_of : PSp := fun ts P => ∃ (n : Nat) (t : Tie), ts = [.int n, tieT t] ∧ t.1 < t.2 ∧ t.2 < n ∧ P (.bl true) .sh
def s_is_web_in : PSp := fun ts P => ∃ n l, ts = [webT n l] ∧ WebOk n l ∧ P (.bl true) .sh
def s_require_web : PSp := fun ts P => ∃ n l, ts = [webT n l] ∧ WebOk n l ∧ P .non .sh
def s_is_web : PSp := fun ts P => ∃ n l, ts = [webT n l] ∧ WebOk n l ∧ P (.bl true) .sh
def s_ties_of : PSp := fun ts P => ∃ n l, ts = [webT n l] ∧ P (.lst (tiesT l)) .ow
def s_is_ascending : PSp := fun ts P => ∃ ns : List Int, ts = [.tup (ns.map T.int)] ∧ ns.length ≤ 1000 ∧ ns.Pairwise (· < ·) ∧ P (.bl true) .sh
def s_is_row_of : PSp := fun ts P => ∃ (ns : List Int) (l m : Int), ts = [.tup (ns.map T.int), .int l, .int m] ∧ ns.length ≤ 1000 ∧ (∀ v ∈ ns, l ≤ v ∧ v ≤ m) ∧ P (.bl true) .sh
def s_is_rising_row : PSp := fun ts P => ∃ (ns : List Int) (m : Int), ts = [.tup (ns.map T.int), .int m] ∧ ns.length ≤ 1000 ∧ (∀ v ∈ ns, 0 ≤ v ∧ v ≤ m) ∧ ns.Pairwise (· < ·) ∧ P (.bl true) .sh
def natsT (r : List Nat) : List T := r.map fun x => T.int (x : Nat)
@[simp] theorem natsT_length (r : List Nat) : (natsT r).length = r.length := by simp [natsT]
def lotT (r : List Nat) : T := .tup (natsT r)
def AscN (r : List Nat) : Prop := r.Pairwise (· < ·)
structure LotOk (n : Nat) (r : List Nat) : Prop where
  asc : AscN r
  lt : ∀ x ∈ r, x < n
def s_is_lot_in : PSp := fun ts P => ∃ (n : Nat) (r : List Nat), ts = [.int n, lotT r] ∧ n ≤ 10 ∧ LotOk n r ∧ P (.bl true) .sh
def s_require_lot : PSp := fun ts P => ∃ (n : Nat) (l : List Tie) (r : List Nat), ts = [webT n l, lotT r] ∧ n ≤ 10 ∧ LotOk n r ∧ P .non .sh
def s_require_web_and_lot : PSp := fun ts P => ∃ (n : Nat) (l : List Tie) (r : List Nat), ts = [webT n l, lotT r] ∧ WebOk n l ∧ LotOk n r ∧ P .non .sh
def s_require_tie : PSp := fun ts P => ∃ (n : Nat) (l : List Tie) (i : Nat), ts = [webT n l, .int i] ∧ i < l.length ∧ P .non .sh
def s_less_tie : PSp := fun ts P => ∃ (n : Nat) (l : List Tie) (i : Nat), ts = [webT n l, .int i] ∧ i < l.length ∧ l.length ≤ 20 ∧ P (webT n (l.eraseIdx i)) .sh
def s_without_tie : PSp := fun ts P => ∃ (n : Nat) (l : List Tie) (i : Nat), ts = [webT n l, .int i] ∧ WebOk n l ∧ i < l.length ∧ P (webT n (l.eraseIdx i)) .sh
def ltTie (a b : Tie) : Bool := HT.lexLt [(a.1 : Int), (a.2 : Int)] [(b.1 : Int), (b.2 : Int)]
def srtTies (l : List Tie) : List Tie := isort ltTie l
def s_told_web : PSp := fun ts P => ∃ (n : Nat) (l : List Tie), ts = [.int n, .lst (tiesT l)] ∧ P (webT n (srtTies l)) .sh
def Dice (c : T) : Prop := ∃ g d : Int, c = .lst [.int g, .int d] ∧ 0 ≤ g ∧ 0 ≤ d ∧ d < 2 ^ 64
def intsF (ns : List Int) : T := .frl (ns.map T.int)
def s__law_dice : PSp := fun ts P => ∃ (ns : List Int) (spot : Nat), ts = [intsF ns, .int spot] ∧ spot ≤ 1000 ∧ ∀ c, Dice c → P c .ow
def s__law_roll : PSp1 := fun c ts P => ∃ (total : Int), ts = [.int total] ∧ Dice c ∧ 1 ≤ total ∧ total ≤ 1000000 ∧ ∀ (r : Nat) c', (r : Int) < total → Dice c' → P (.int r) .sh c'
def mm (t : Tie) : Tie := (min t.1 t.2, max t.1 t.2)
def s__law_web : PSp := fun ts P => ∃ (n : Nat) (l : List Tie), ts = [.int n, .lst (tiesT l)] ∧ l.length ≤ 1000 ∧ P (webT n (srtTies (l.map mm))) .sh
def lawChoose (n k : Nat) : Int := (List.range k).foldl (fun (f : Int) (i : Nat) => f * ((n : Int) - i) / (i + 1)) 1
def lawFactors (a m s : Nat) : Int := (List.range m).foldl (fun (f : Int) (i : Nat) => f * ((a : Int) + s * i)) 1
def s__law_choose : PSp := fun ts P => ∃ (n k : Nat), ts = [.int n, .int k] ∧ n ≤ 1000 ∧ k ≤ 1000 ∧ P (.int (lawChoose n k)) .sh
def s__law_factors : PSp := fun ts P => ∃ (a m s : Nat), ts = [.int a, .int m, .int s] ∧ a ≤ 1000 ∧ m ≤ 1000 ∧ s ≤ 1000 ∧ P (.int (lawFactors a m s)) .sh
def s__law_mixed : PSp1 := fun c ts P => ∃ (us : List Nat), ts = [.lst (natsT us)] ∧ Dice c ∧ us.length ≤ 1000 ∧ ∀ (vs : List Nat) c', vs.Perm us → Dice c' → P (.lst (natsT vs)) .ow c'
def nmT (vs : List Nat) (t : Tie) : Tie := mm (vs.getD t.1 0, vs.getD t.2 0)
def s__law_named : PSp1 := fun c ts P => ∃ (n : Nat) (l : List Tie), ts = [webT n l] ∧ Dice c ∧ n ≤ 1000 ∧ l.length ≤ 1000 ∧ (∀ t ∈ l, t.1 < n ∧ t.2 < n) ∧ ∀ (vs : List Nat) c', vs.Perm (List.range n) → Dice c' → P (webT n (srtTies (l.map (nmT vs)))) .sh c'
def clr (m a : Nat) : Nat := m - (m &&& 2 ^ a)
def inM (m : Nat) (t : Tie) : Bool := m.testBit t.1 && m.testBit t.2
def sub (m : Nat) (l : List Tie) : List Tie := l.filter fun t => inM m t
def ch (x m : Nat) (l : List Tie) : List (Nat × Nat) := l.zipIdx.filterMap fun p => if (tou x p.1 && inM m p.1) = true then some (p.2, clr (clr m p.1.1) p.1.2) else none
def chT (p : Nat × Nat) : T := .tup [.int (p.1 : Nat), .int (p.2 : Nat)]
def rowT (r : List Nat) : T := .lst (natsT r)
def s_lowest_place : PSp := fun ts P => ∃ (m x : Nat), ts = [.int m] ∧ x ≤ 20 ∧ m.testBit x = true ∧ (∀ y, y < x → m.testBit y = false) ∧ P (.int x) .sh
def s_choices_at : PSp := fun ts P => ∃ (l : List Tie) (x m : Nat), ts = [.lst (tiesT l), .int x, .int m] ∧ l.length ≤ 100 ∧ (∀ t ∈ l, t.1 ≤ 20 ∧ t.2 ≤ 20) ∧ P (.lst ((ch x m l).map chT)) .ow
def s_added_counts : PSp := fun ts P => ∃ (r q : List Nat), ts = [rowT r, rowT q] ∧ r.length ≤ 1000 ∧ q.length ≤ 1000 ∧ P (rowT (addR r q)) .ow
structure Rows (n : Nat) (l : List Tie) (rows : List (List Nat)) : Prop where
  len : rows.length = 2 ^ n
  row : ∀ m, m < 2 ^ n → Row (rows.getD m []) (cM (sub m l))
def s_counts_upto : PSp := fun ts P => ∃ (n : Nat) (l : List Tie), ts = [webT n l] ∧ WebOk n l ∧ ∀ rows, Rows n l rows → P (.lst (rows.map rowT)) .ow
def s_counts_in : PSp := fun ts P => ∃ (n : Nat) (l : List Tie), ts = [webT n l] ∧ WebOk n l ∧ ∀ r, Row r (cM l) → P (rowT r) .sh
def s_most_upto : PSp := fun ts P => ∃ (n : Nat) (l : List Tie), ts = [webT n l] ∧ WebOk n l ∧ ∀ rows, Rows n l rows → P (.lst (natsT (rows.map fun r => r.length - 1))) .ow
def s_most_paired : PSp := fun ts P => ∃ (n : Nat) (l : List Tie), ts = [webT n l] ∧ WebOk n l ∧ ∀ r, Row r (cM l) → P (.int ((r.length - 1 : Nat) : Int)) .sh
def s_count_by_ties : PSp := fun ts P => ∃ (n : Nat) (l : List Tie), ts = [webT n l] ∧ WebOk n l ∧ ∀ r, Row r (cM l) → P (.tup (natsT r)) .sh
def s_count_pairings : PSp := fun ts P => ∃ (n : Nat) (l : List Tie), ts = [webT n l] ∧ WebOk n l ∧ P (.int (tM l : Nat)) .sh
def pT (s : List Nat) : T := .tup (natsT s)
def ltP (a b : List Nat) : Bool := HT.lexLt (a.map fun x : Nat => (x : Int)) (b.map fun x : Nat => (x : Int))
def srtP (L : List (List Nat)) : List (List Nat) := isort ltP L
def s_pairings_in : PSp := fun ts P => ∃ (n : Nat) (l : List Tie), ts = [webT n l] ∧ l.length ≤ 20 ∧ ∀ L, List.Perm L (allP l) → P (.lst (L.map pT)) .ow
def s_all_pairings : PSp := fun ts P => ∃ (n : Nat) (l : List Tie), ts = [webT n l] ∧ WebOk n l ∧ P (.tup ((srtP (allP l)).map pT)) .sh
def fullP (n : Nat) (l : List Tie) : List (List Nat) := (allP l).filter fun s => decide (2 * s.length = n)
def s_full_pairings_in : PSp := fun ts P => ∃ (n : Nat) (l : List Tie), ts = [webT n l] ∧ WebOk n l ∧ ∀ L, List.Perm L (fullP n l) → P (.lst (L.map pT)) .ow
def s_full_pairings : PSp := fun ts P => ∃ (n : Nat) (l : List Tie), ts = [webT n l] ∧ WebOk n l ∧ P (.tup ((srtP (fullP n l)).map pT)) .sh
def s__law_pairings : PSp := fun ts P => ∃ (n : Nat) (l : List Tie), ts = [webT n l] ∧ l.length ≤ 20 ∧ P (.lst ((srtP (allP l)).map pT)) .ow
def s__law_counts : PSp := fun ts P => ∃ (l : List Tie) (L : List (List Nat)), ts = [.lst (L.map pT)] ∧ l.length ≤ 20 ∧ List.Perm L (allP l) ∧ ∀ r, Row r (cM l) → P (rowT r) .ow
def s__law_are_told : PSp := fun ts P => ∃ (n : Nat) (l : List Tie) (due : List Nat), ts = [webT n l, rowT due] ∧ WebOk n l ∧ Row due (cM l) ∧ P (.bl true) .sh
def Clo (l : List Tie) (C : Nat → Prop) : Prop := ∀ t ∈ l, C t.1 ↔ C t.2
def s_reached_from : PSp := fun ts P => ∃ (n : Nat) (l : List Tie) (x : Nat), ts = [.int n, .tup (tiesT l), .int x] ∧ n ≤ 10 ∧ l.length ≤ 20 ∧ x < n ∧ (∀ t ∈ l, t.1 < n ∧ t.2 < n) ∧
  ∀ R : List Nat, AscN R → x ∈ R → Clo l (fun y => y ∈ R) → (∀ C : Nat → Prop, Clo l C → C x → ∀ y ∈ R, C y) → P (.lst (natsT R)) .ow
structure Pcs (n : Nat) (l : List Tie) (Ls : List (List Nat)) : Prop where
  one : ∀ R ∈ Ls, AscN R ∧ (∀ y ∈ R, y < n) ∧ R ≠ [] ∧ Clo l (fun y => y ∈ R)
  dis : Ls.Pairwise fun R S => ∀ y ∈ R, y ∉ S
  cov : ∀ y, y < n → ∃ R ∈ Ls, y ∈ R
  len : Ls.length ≤ n
def s_pieces_in : PSp := fun ts P => ∃ (n : Nat) (l : List Tie), ts = [.int n, .tup (tiesT l)] ∧ n ≤ 10 ∧ l.length ≤ 20 ∧ (∀ t ∈ l, t.1 < n ∧ t.2 < n) ∧ ∀ Ls, Pcs n l Ls → P (.lst (Ls.map rowT)) .ow
def s_pieces : PSp := fun ts P => ∃ (n : Nat) (l : List Tie), ts = [webT n l] ∧ WebOk n l ∧ ∀ Ls, Pcs n l Ls → P (.tup (Ls.map lotT)) .sh
def inR (r : List Nat) (t : Tie) : Bool := r.contains t.1 && r.contains t.2
def posT (r : List Nat) (t : Tie) : Tie := (r.idxOf t.1, r.idxOf t.2)
def part (r : List Nat) (l : List Tie) : List Tie := srtTies ((l.filter (inR r)).map (posT r))
def s_part_in : PSp := fun ts P => ∃ (n : Nat) (l : List Tie) (r : List Nat), ts = [webT n l, lotT r] ∧ n ≤ 10 ∧ l.length ≤ 20 ∧ LotOk n r ∧ P (webT r.length (part r l)) .sh
def s_part_of : PSp := fun ts P => ∃ (n : Nat) (l : List Tie) (r : List Nat), ts = [webT n l, lotT r] ∧ WebOk n l ∧ LotOk n r ∧ r ≠ [] ∧ P (webT r.length (part r l)) .sh
def s__law_known : PSp1 := fun c ts P => ts = [] ∧ Dice c ∧ ∀ (n : Nat) (l : List Tie) (due : List Nat) c', WebOk n l → Row due (cM l) → Dice c' → P (.tup [webT n l, rowT due]) .sh c'
def s__law_drawn : PSp1 := fun c ts P => ts = [] ∧ Dice c ∧ ∀ (n : Nat) (l : List Tie) c', WebOk n l → 2 ≤ n → Dice c' → P (webT n l) .sh c'
def s__law_drawn_right : PSp1 := fun c ts P => ts = [] ∧ Dice c ∧ ∀ c', Dice c' → P (.bl true) .sh c'
def s__law_ladder_right : PSp1 := fun c ts P => ts = [] ∧ Dice c ∧ ∀ c', Dice c' → P (.bl true) .sh c'
def s__law_regular_right : PSp1 := fun c ts P => ts = [] ∧ Dice c ∧ ∀ c', Dice c' → P (.bl true) .sh c'
def s_law : PSp := fun ts P => ∃ ns : List Int, ts = [intsF ns] ∧ P (.bl true) .sh


def w__law_dice : WS := (wSeq (wSet 2 (wIf (wTst (wOp oLt [(.sl 1), (.ex (wSh (wOp oLen [(.sl 0)])))])) (wOp oInt [(.ex (wSh (wOp oIx [(.sl 0), (.sl 1)])))]) (wOp oAdd [(.ex (wSh (wOp oMul [(.ex (wC (.int 131))), (.sl 1)]))), (.ex (wC (.int 71)))]))) (wSeq (wSet 3 (wOp oMod [(.ex (wSh (wOp oMax [(.ex (wC (.int 0))), (.ex (wSh (wOp oSub [(.ex (wSh (wOp oAbs [(.sl 2)]))), (.ex (wSh (wOp oPow [(.ex (wC (.int 10))), (.ex (wC (.int 16)))])))])))]))), (.ex (wSh (wOp oMul [(.ex (wSh (wOp oPow [(.ex (wC (.int 10))), (.ex (wC (.int 55)))]))), (.ex (wSh (wOp oPow [(.ex (wC (.int 10))), (.ex (wC (.int 55)))])))])))])) (wRet (wLst [.one (wNm 3), .one (wSh (wOp oMod [(.ex (wSh (wOp oAdd [(.ex (wSh (wOp oAdd [(.ex (wSh (wOp oMod [(.ex (wSh (wOp oAbs [(.sl 2)]))), (.ex (wC (.int 18446744073709551557)))]))), (.ex (wSh (wOp oMul [(.ex (wC (.int 7919))), (.sl 1)])))]))), (.ex (wSh (wOp oMul [(.ex (wC (.int 31))), (.ex (wSh (wOp oInt [(.ex (wSh (wOp oLt [(.sl 2), (.ex (wC (.int 0)))])))])))])))]))), (.ex (wC (.int 18446744073709551616)))]))]))))
def w__law_roll : WS := (wSeq (wIfS (wTst (wOp oGt [(.ex (wSh (wOp oIx [(.sl 0), (.ex (wC (.int 0)))]))), (.ex (wC (.int 0)))])) (wSeq (wSet 2 (wOp oInt [(.ex (wSh (wOp oMod [(.ex (wSh (wOp oIx [(.sl 0), (.ex (wC (.int 0)))]))), (.sl 1)])))])) (wSeq (wAsg (wSh (wOp oFdv [(.ex (wSh (wOp oIx [(.sl 0), (.ex (wC (.int 0)))]))), (.sl 1)])) (wgIx 0 (wC (.int 0)))) (wRet (wMv 2)))) wNx) (wSeq (wAsg (wSh (wOp oMod [(.ex (wSh (wOp oAdd [(.ex (wSh (wOp oMul [(.ex (wSh (wOp oIx [(.sl 0), (.ex (wC (.int 1)))]))), (.ex (wC (.int 6364136223846793005)))]))), (.ex (wC (.int 1442695040888963407)))]))), (.ex (wC (.int 18446744073709551616)))])) (wgIx 0 (wC (.int 1)))) (wRet (wOp oMod [(.ex (wSh (wOp oInt [(.ex (wSh (wOp oFdv [(.ex (wSh (wOp oIx [(.sl 0), (.ex (wC (.int 1)))]))), (.ex (wC (.int 4294967296)))])))]))), (.sl 1)]))))
def w__law_web : WS := (wRet (wTup [.one (wNm 0), .one (wSh (wOp oTuple [(.ex (wSh (wOp oSorted [(.ex (wSh (wLc (wiSeq (wNm 1)) (wgTup 2 (wgCons (wgNm 2) (wgCons (wgNm 3) wgNil))) wYes (wSh (wTup [.one (wSh (wOp oMin [(.sl 2), (.sl 3)])), .one (wSh (wOp oMax [(.sl 2), (.sl 3)]))])) [2, 3])))])))]))]))
def w__law_choose : WS := (wSeq (wSet 2 (wUn (wC (.int 1)))) (wSeq (wFor (wiRng1 (wNm 1)) (wgNm 3) (wSet 2 (wOp oFdv [(.ex (wSh (wOp oMul [(.sl 2), (.ex (wSh (wOp oSub [(.sl 0), (.sl 3)])))]))), (.ex (wSh (wOp oAdd [(.sl 3), (.ex (wC (.int 1)))])))]))) (wRet (wMv 2))))
def w__law_factors : WS := (wSeq (wSet 3 (wUn (wC (.int 1)))) (wSeq (wFor (wiRng1 (wNm 1)) (wgNm 4) (wSet 3 (wOp oMul [(.sl 3), (.ex (wSh (wOp oAdd [(.sl 0), (.ex (wSh (wOp oMul [(.sl 2), (.sl 4)])))])))]))) (wRet (wMv 3))))
def w__law_known : WS := (wSeq (wSet 1 (wCall1 1 0 s__law_roll [.one (wC (.int 6))])) (wSeq (wIfS (wTst (wOp oEq [(.sl 1), (.ex (wC (.int 0)))])) (wSeq (wSet 2 (wOp oAdd [(.ex (wC (.int 3))), (.ex (wSh (wCall1 1 0 s__law_roll [.one (wC (.int 8))])))])) (wRet (wTup [.one (wSh (wCall 2 s__law_web [.one (wNm 2), .one (wSh (wLc (wiRng1 (wNm 2)) (wgNm 10) wYes (wSh (wTup [.one (wNm 10), .one (wSh (wOp oMod [(.ex (wSh (wOp oAdd [(.sl 10), (.ex (wC (.int 1)))]))), (.sl 2)]))])) [10]))])), .one (wSh (wLc (wiRng1 (wSh (wOp oAdd [(.ex (wSh (wOp oFdv [(.sl 2), (.ex (wC (.int 2)))]))), (.ex (wC (.int 1)))]))) (wgNm 11) wYes (wSh (wOp oFdv [(.ex (wSh (wOp oMul [(.sl 2), (.ex (wSh (wCall 2 s__law_choose [.one (wSh (wOp oSub [(.sl 2), (.sl 11)])), .one (wNm 11)])))]))), (.ex (wSh (wOp oSub [(.sl 2), (.sl 11)])))])) [11]))]))) wNx) (wSeq (wIfS (wTst (wOp oEq [(.sl 1), (.ex (wC (.int 1)))])) (wSeq (wSet 2 (wOp oAdd [(.ex (wC (.int 1))), (.ex (wSh (wCall1 1 0 s__law_roll [.one (wC (.int 10))])))])) (wRet (wTup [.one (wSh (wCall 2 s__law_web [.one (wNm 2), .one (wSh (wLc (wiRng1 (wSh (wOp oSub [(.sl 2), (.ex (wC (.int 1)))]))) (wgNm 10) wYes (wSh (wTup [.one (wNm 10), .one (wSh (wOp oAdd [(.sl 10), (.ex (wC (.int 1)))]))])) [10]))])), .one (wSh (wLc (wiRng1 (wSh (wOp oAdd [(.ex (wSh (wOp oFdv [(.sl 2), (.ex (wC (.int 2)))]))), (.ex (wC (.int 1)))]))) (wgNm 11) wYes (wSh (wCall 2 s__law_choose [.one (wSh (wOp oSub [(.sl 2), (.sl 11)])), .one (wNm 11)])) [11]))]))) wNx) (wSeq (wIfS (wTst (wOp oEq [(.sl 1), (.ex (wC (.int 2)))])) (wSeq (wSet 2 (wOp oAdd [(.ex (wC (.int 1))), (.ex (wSh (wCall1 1 0 s__law_roll [.one (wC (.int 6))])))])) (wSeq (wSet 3 (wSumL (wSh (wLc (wiRng1 (wNm 2)) (wgNm 12) wYes (wSh (wLc (wiRng2 (wSh (wOp oAdd [(.sl 12), (.ex (wC (.int 1)))])) (wNm 2)) (wgNm 13) wYes (wSh (wTup [.one (wNm 12), .one (wNm 13)])) [13])) [12])) (wSh (wLst [])))) (wRet (wTup [.one (wSh (wCall 2 s__law_web [.one (wNm 2), .one (wNm 3)])), .one (wSh (wLc (wiRng1 (wSh (wOp oAdd [(.ex (wSh (wOp oFdv [(.sl 2), (.ex (wC (.int 2)))]))), (.ex (wC (.int 1)))]))) (wgNm 11) wYes (wSh (wOp oMul [(.ex (wSh (wCall 2 s__law_choose [.one (wNm 2), .one (wSh (wOp oMul [(.ex (wC (.int 2))), (.sl 11)]))]))), (.ex (wSh (wCall 3 s__law_factors [.one (wC (.int 1)), .one (wNm 11), .one (wC (.int 2))])))])) [11]))])))) wNx) (wSeq (wIfS (wTst (wOp oEq [(.sl 1), (.ex (wC (.int 3)))])) (wSeq (wSet 4 (wOp oAdd [(.ex (wC (.int 1))), (.ex (wSh (wCall1 1 0 s__law_roll [.one (wC (.int 5))])))])) (wSeq (wSet 2 (wOp oAdd [(.ex (wC (.int 1))), (.ex (wSh (wCall1 1 0 s__law_roll [.one (wSh (wOp oMin [(.ex (wC (.int 5))), (.ex (wSh (wOp oFdv [(.ex (wC (.int 20))), (.sl 4)])))]))])))])) (wSeq (wSet 3 (wSumL (wSh (wLc (wiRng1 (wNm 4)) (wgNm 12) wYes (wSh (wLc (wiRng1 (wNm 2)) (wgNm 13) wYes (wSh (wTup [.one (wNm 12), .one (wSh (wOp oAdd [(.sl 4), (.sl 13)]))])) [13])) [12])) (wSh (wLst [])))) (wRet (wTup [.one (wSh (wCall 2 s__law_web [.one (wSh (wOp oAdd [(.sl 4), (.sl 2)])), .one (wNm 3)])), .one (wSh (wLc (wiRng1 (wSh (wOp oAdd [(.ex (wSh (wOp oMin [(.sl 4), (.sl 2)]))), (.ex (wC (.int 1)))]))) (wgNm 11) wYes (wSh (wOp oMul [(.ex (wSh (wOp oMul [(.ex (wSh (wCall 2 s__law_choose [.one (wNm 4), .one (wNm 11)]))), (.ex (wSh (wCall 2 s__law_choose [.one (wNm 2), .one (wNm 11)])))]))), (.ex (wSh (wCall 3 s__law_factors [.one (wC (.int 1)), .one (wNm 11), .one (wC (.int 1))])))])) [11]))]))))) wNx) (wSeq (wIfS (wTst (wOp oEq [(.sl 1), (.ex (wC (.int 4)))])) (wSeq (wSet 2 (wOp oAdd [(.ex (wC (.int 2))), (.ex (wSh (wCall1 1 0 s__law_roll [.one (wC (.int 5))])))])) (wSeq (wSet 9 (wLc (wiRng1 (wSh (wOp oSub [(.sl 2), (.ex (wC (.int 1)))]))) (wgNm 10) wYes (wSh (wOp oAdd [(.ex (wC (.int 1))), (.ex (wSh (wCall1 1 0 s__law_roll [.one (wC (.int 4))])))])) [10])) (wSeq (wPar 5 6 (wLst [.one (wC (.int 1))]) (wLst [.one (wC (.int 1))])) (wSeq (wFor (wiSeq (wNm 9)) (wgNm 7) (wSeq (wSet 8 (wOp oAdd [(.ex (wSh (wLst [.one (wC (.int 0))]))), (.ex (wSh (wLc (wiSeq (wNm 5)) (wgNm 14) wYes (wSh (wOp oMul [(.sl 7), (.sl 14)])) [14])))])) (wPar 5 6 (wUn (wNm 6)) (wLc (wiRng1 (wSh (wOp oMax [(.ex (wSh (wOp oLen [(.sl 6)]))), (.ex (wSh (wOp oLen [(.sl 8)])))]))) (wgNm 15) wYes (wSh (wOp oAdd [(.ex (wSh (wIf (wTst (wOp oLt [(.sl 15), (.ex (wSh (wOp oLen [(.sl 6)])))])) (wOp oIx [(.sl 6), (.sl 15)]) (wUn (wC (.int 0)))))), (.ex (wSh (wIf (wTst (wOp oLt [(.sl 15), (.ex (wSh (wOp oLen [(.sl 8)])))])) (wOp oIx [(.sl 8), (.sl 15)]) (wUn (wC (.int 0))))))])) [15])))) (wRet (wTup [.one (wSh (wCall 2 s__law_web [.one (wNm 2), .one (wSh (wSumL (wSh (wLc (wiEnum (wNm 9)) (wgTup 2 (wgCons (wgNm 10) (wgCons (wgNm 7) wgNil))) wYes (wSh (wOp oMul [(.ex (wSh (wLst [.one (wSh (wTup [.one (wNm 10), .one (wSh (wOp oAdd [(.sl 10), (.ex (wC (.int 1)))]))]))]))), (.sl 7)])) [7, 10])) (wSh (wLst []))))])), .one (wNm 6)])))))) wNx) (wSeq (wSet 9 (wLc (wiRng1 (wSh (wOp oAdd [(.ex (wC (.int 1))), (.ex (wSh (wCall1 1 0 s__law_roll [.one (wC (.int 6))])))]))) (wgNm 10) wYes (wSh (wOp oAdd [(.ex (wC (.int 1))), (.ex (wSh (wCall1 1 0 s__law_roll [.one (wC (.int 3))])))])) [10])) (wRet (wTup [.one (wSh (wCall 2 s__law_web [.one (wSh (wOp oAdd [(.ex (wSh (wOp oLen [(.sl 9)]))), (.ex (wC (.int 1)))])), .one (wSh (wSumL (wSh (wLc (wiEnum (wNm 9)) (wgTup 2 (wgCons (wgNm 10) (wgCons (wgNm 7) wgNil))) wYes (wSh (wOp oMul [(.ex (wSh (wLst [.one (wSh (wTup [.one (wC (.int 0)), .one (wSh (wOp oAdd [(.sl 10), (.ex (wC (.int 1)))]))]))]))), (.sl 7)])) [7, 10])) (wSh (wLst []))))])), .one (wSh (wLst [.one (wC (.int 1)), .one (wSh (wOp oSum [(.sl 9)]))]))])))))))))
def w_is_pair : WS := (wRet (wAndV (wSh (wIsi "tuple" (.sl 0))) (wOp oEq [(.ex (wSh (wOp oLen [(.sl 0)]))), (.ex (wC (.int 2)))])))
def w_is_whole : WS := (wRet (wAndV (wSh (wIsi "int" (.sl 0))) (wNotV (wSh (wIsi "bool" (.sl 0))))))
def w_is_within : WS := (wRet (wAndV (wSh (wCall 1 s_is_whole [.one (wNm 0)])) (wChain oLe oLe (wNm 1) (wNm 0) (wNm 2))))
def w_is_tie_of : WS := (wRet (wAndV (wSh (wCall 1 s_is_pair [.one (wNm 1)])) (wAndV (wSh (wOp oAll [(.ex (wSh (wLc (wiSeq (wNm 1)) (wgNm 2) wYes (wSh (wCall 3 s_is_within [.one (wNm 2), .one (wC (.int 0)), .one (wSh (wOp oSub [(.sl 0), (.ex (wC (.int 1)))]))])) [2])))])) (wOp oLt [(.ex (wSh (wOp oIx [(.sl 1), (.ex (wC (.int 0)))]))), (.ex (wSh (wOp oIx [(.sl 1), (.ex (wC (.int 1)))])))]))))
def w_is_web_in : WS := (wSeq (wIfS (wOr (wNot (wTru (wCall 1 s_is_pair [.one (wNm 0)]))) (wOr (wNot (wTru (wCall 3 s_is_within [.one (wSh (wOp oIx [(.sl 0), (.ex (wC (.int 0)))])), .one (wC (.int 1)), .one (wC (.int 10))]))) (wNot (wTru (wIsi "tuple" (.ex (wSh (wOp oIx [(.sl 0), (.ex (wC (.int 1)))])))))))) (wRet (wUn (wC (.bl false)))) wNx) (wSeq (wAsg (wNm 0) (wgTup 2 (wgCons (wgNm 1) (wgCons (wgNm 2) wgNil)))) (wSeq (wIfS (wOr (wTst (wOp oGt [(.ex (wSh (wOp oLen [(.sl 2)]))), (.ex (wC (.int 20)))])) (wNot (wTru (wOp oAll [(.ex (wSh (wLc (wiSeq (wNm 2)) (wgNm 3) wYes (wSh (wCall 2 s_is_tie_of [.one (wNm 1), .one (wNm 3)])) [3])))])))) (wRet (wUn (wC (.bl false)))) wNx) (wRet (wOp oAll [(.ex (wSh (wLc (wiZip (wNm 2) (wSh (wOp oSlA [(.sl 2), (.ex (wC (.int 1)))]))) (wgTup 2 (wgCons (wgNm 4) (wgCons (wgNm 5) wgNil))) wYes (wSh (wOp oLe [(.sl 4), (.sl 5)])) [4, 5])))])))))
def w_require_web : WS := (wIfS (wNot (wTru (wCall 1 s_is_web_in [.one (wNm 0)]))) wNever wNx)
def w_ties_of : WS := (wRet (wOp oList [(.ex (wSh (wOp oIx [(.sl 0), (.ex (wC (.int 1)))])))]))
def w_full_pairings_in : WS := (wSeq (wPar3 1 2 3 (wCall 1 s_ties_of [.one (wNm 0)]) (wLst [.one (wSh (wTup [.one (wSh (wTup [])), .one (wSh (wRg1 .tup .sh (wSh (wOp oIx [(.sl 0), (.ex (wC (.int 0)))]))))]))]) (wLst [])) (wSeq (wWhile (wTst (wOp oNe [(.sl 2), (.ex (wSh (wLst [])))])) (wSeq (wAsg (wSh (wPop 2)) (wgTup 2 (wgCons (wgNm 4) (wgCons (wgNm 5) wgNil)))) (wIfS (wTst (wOp oEq [(.sl 5), (.ex (wSh (wTup [])))])) (wDrop (wApp 3 (wSh (wOp oTuple [(.ex (wSh (wOp oSorted [(.sl 4)])))])))) (wFor (wiEnum (wNm 1)) (wgTup 2 (wgCons (wgNm 6) (wgCons (wgTup 2 (wgCons (wgNm 7) (wgCons (wgNm 8) wgNil))) wgNil))) (wIfS (wAnd (wTst (wOp (oIn false) [(.ex (wSh (wOp oIx [(.sl 5), (.ex (wC (.int 0)))]))), (.ex (wSh (wTup [.one (wNm 7), .one (wNm 8)])))])) (wAnd (wTst (wOp (oIn false) [(.sl 7), (.sl 5)])) (wTst (wOp (oIn false) [(.sl 8), (.sl 5)])))) (wDrop (wApp 2 (wSh (wTup [.one (wSh (wTup [.star (.sl 4), .one (wNm 6)])), .one (wSh (wOp oTuple [(.ex (wSh (wLc (wiSeq (wNm 5)) (wgNm 9) (wTst (wOp (oIn true) [(.sl 9), (.ex (wSh (wTup [.one (wNm 7), .one (wNm 8)])))])) (wNm 9) [9])))]))])))) wNx))))) (wRet (wMv 3))))
def w_full_pairings : WS := (wSeq (wDrop (wCall 1 s_require_web [.one (wNm 0)])) (wRet (wOp oTuple [(.ex (wSh (wOp oSorted [(.ex (wSh (wCall 1 s_full_pairings_in [.one (wNm 0)])))])))])))
def w_lowest_place : WS := (wSeq (wSet 1 (wUn (wC (.int 0)))) (wSeq (wWhile (wTst (wOp oEq [(.ex (wSh (wOp oAnd [(.ex (wSh (wOp oShr [(.sl 0), (.sl 1)]))), (.ex (wC (.int 1)))]))), (.ex (wC (.int 0)))])) (wAug 1 (wUn (wC (.int 1))) (oI (fun _ _ => True) fun i j => i + j))) (wRet (wMv 1))))
def w_choices_at : WS := (wSeq (wSet 3 (wLst [])) (wSeq (wFor (wiEnum (wNm 0)) (wgTup 2 (wgCons (wgNm 4) (wgCons (wgTup 2 (wgCons (wgNm 5) (wgCons (wgNm 6) wgNil))) wgNil))) (wIfS (wAnd (wTst (wOp (oIn false) [(.sl 1), (.ex (wSh (wTup [.one (wNm 5), .one (wNm 6)])))])) (wAnd (wTru (wOp oAnd [(.ex (wSh (wOp oShr [(.sl 2), (.sl 5)]))), (.ex (wC (.int 1)))])) (wTru (wOp oAnd [(.ex (wSh (wOp oShr [(.sl 2), (.sl 6)]))), (.ex (wC (.int 1)))])))) (wDrop (wApp 3 (wSh (wTup [.one (wNm 4), .one (wSh (wOp oAnd [(.ex (wSh (wOp oAnd [(.sl 2), (.ex (wSh (wOp (oU fun i => Builtin.bitNot i) [(.ex (wSh (wOp oShl [(.ex (wC (.int 1))), (.sl 5)])))])))]))), (.ex (wSh (wOp (oU fun i => Builtin.bitNot i) [(.ex (wSh (wOp oShl [(.ex (wC (.int 1))), (.sl 6)])))])))]))])))) wNx)) (wRet (wMv 3))))
def w_added_counts : WS := (wSeq (wSet 2 (wOp oMax [(.ex (wSh (wOp oLen [(.sl 0)]))), (.ex (wSh (wOp oLen [(.sl 1)])))])) (wRet (wLc (wiRng1 (wNm 2)) (wgNm 3) wYes (wSh (wOp oSum [(.ex (wSh (wLc (wiSeq (wSh (wTup [.one (wNm 0), .one (wNm 1)]))) (wgNm 4) (wTst (wOp oLt [(.sl 3), (.ex (wSh (wOp oLen [(.sl 4)])))])) (wSh (wOp oIx [(.sl 4), (.sl 3)])) [4])))])) [3])))
def w_counts_upto : WS := (wSeq (wPar 1 2 (wCall 1 s_ties_of [.one (wNm 0)]) (wLst [.one (wSh (wLst [.one (wC (.int 1))]))])) (wSeq (wFor (wiRng2 (wC (.int 1)) (wSh (wOp oShl [(.ex (wC (.int 1))), (.ex (wSh (wOp oIx [(.sl 0), (.ex (wC (.int 0)))])))]))) (wgNm 3) (wSeq (wSet 4 (wCall 1 s_lowest_place [.one (wNm 3)])) (wSeq (wSet 5 (wOp oIx [(.sl 2), (.ex (wSh (wOp oAnd [(.sl 3), (.ex (wSh (wOp (oU fun i => Builtin.bitNot i) [(.ex (wSh (wOp oShl [(.ex (wC (.int 1))), (.sl 4)])))])))])))])) (wSeq (wFor (wiSeq (wSh (wCall 3 s_choices_at [.one (wNm 1), .one (wNm 4), .one (wNm 3)]))) (wgTup 2 (wgCons (wgNm 6) (wgCons (wgNm 7) wgNil))) (wSet 5 (wCall 2 s_added_counts [.one (wNm 5), .one (wSh (wLst [.one (wC (.int 0)), .star (.ex (wSh (wOp oIx [(.sl 2), (.sl 7)])))]))]))) (wDrop (wApp 2 (wNm 5))))))) (wRet (wMv 2))))
def w_counts_in : WS := (wRet (wOp oIx [(.ex (wSh (wCall 1 s_counts_upto [.one (wNm 0)]))), (.ex (wSh (wOp (oU fun i => -i) [(.ex (wC (.int 1)))])))]))
def w_count_by_ties : WS := (wSeq (wDrop (wCall 1 s_require_web [.one (wNm 0)])) (wRet (wOp oTuple [(.ex (wSh (wCall 1 s_counts_in [.one (wNm 0)])))])))
def w_pairings_in : WS := (wSeq (wPar3 1 2 3 (wCall 1 s_ties_of [.one (wNm 0)]) (wLst [.one (wSh (wTup [.one (wSh (wTup [])), .one (wC (.int 0)), .one (wSh (wTup []))]))]) (wLst [])) (wSeq (wWhile (wTst (wOp oNe [(.sl 2), (.ex (wSh (wLst [])))])) (wSeq (wAsg (wSh (wPop 2)) (wgTup 3 (wgCons (wgNm 4) (wgCons (wgNm 5) (wgCons (wgNm 6) wgNil))))) (wSeq (wDrop (wApp 3 (wNm 4))) (wFor (wiRng2 (wNm 5) (wSh (wOp oLen [(.sl 1)]))) (wgNm 7) (wSeq (wAsg (wSh (wOp oIx [(.sl 1), (.sl 7)])) (wgTup 2 (wgCons (wgNm 8) (wgCons (wgNm 9) wgNil)))) (wIfS (wAnd (wTst (wOp (oIn true) [(.sl 8), (.sl 6)])) (wTst (wOp (oIn true) [(.sl 9), (.sl 6)]))) (wDrop (wApp 2 (wSh (wTup [.one (wSh (wTup [.star (.sl 4), .one (wNm 7)])), .one (wSh (wOp oAdd [(.sl 7), (.ex (wC (.int 1)))])), .one (wSh (wTup [.star (.sl 6), .one (wNm 8), .one (wNm 9)]))])))) wNx)))))) (wRet (wMv 3))))
def w_all_pairings : WS := (wSeq (wDrop (wCall 1 s_require_web [.one (wNm 0)])) (wRet (wOp oTuple [(.ex (wSh (wOp oSorted [(.ex (wSh (wCall 1 s_pairings_in [.one (wNm 0)])))])))])))
def w__law_mixed : WS := (wSeq (wSet 2 (wLst [])) (wSeq (wFor (wiSeq (wNm 1)) (wgNm 3) (wSeq (wSet 4 (wCall1 1 0 s__law_roll [.one (wSh (wOp oAdd [(.ex (wSh (wOp oLen [(.sl 2)]))), (.ex (wC (.int 1)))]))])) (wSet 2 (wOp oAdd [(.ex (wSh (wOp oAdd [(.ex (wSh (wOp oSlB [(.sl 2), (.sl 4)]))), (.ex (wSh (wLst [.one (wNm 3)])))]))), (.ex (wSh (wOp oSlA [(.sl 2), (.sl 4)])))])))) (wRet (wMv 2))))
def w__law_named : WS := (wSeq (wSet 2 (wCall1 1 0 s__law_mixed [.one (wSh (wRg1 .lst .ow (wSh (wOp oIx [(.sl 1), (.ex (wC (.int 0)))]))))])) (wRet (wCall 2 s__law_web [.one (wSh (wOp oIx [(.sl 1), (.ex (wC (.int 0)))])), .one (wSh (wLc (wiSeq (wSh (wOp oIx [(.sl 1), (.ex (wC (.int 1)))]))) (wgTup 2 (wgCons (wgNm 3) (wgCons (wgNm 4) wgNil))) wYes (wSh (wTup [.one (wSh (wOp oIx [(.sl 2), (.sl 3)])), .one (wSh (wOp oIx [(.sl 2), (.sl 4)]))])) [3, 4]))])))
def w_count_pairings : WS := (wSeq (wDrop (wCall 1 s_require_web [.one (wNm 0)])) (wRet (wOp oSum [(.ex (wSh (wCall 1 s_counts_in [.one (wNm 0)])))])))
def w__law_ladder_right : WS := (wSeq (wSet 1 (wOp oAdd [(.ex (wC (.int 1))), (.ex (wSh (wCall1 1 0 s__law_roll [.one (wC (.int 5))])))])) (wSeq (wSet 2 (wOp oAdd [(.ex (wSh (wOp oAdd [(.ex (wSh (wLc (wiRng1 (wNm 1)) (wgNm 4) wYes (wSh (wTup [.one (wNm 4), .one (wSh (wOp oAdd [(.sl 4), (.sl 1)]))])) [4]))), (.ex (wSh (wLc (wiRng1 (wSh (wOp oSub [(.sl 1), (.ex (wC (.int 1)))]))) (wgNm 4) wYes (wSh (wTup [.one (wNm 4), .one (wSh (wOp oAdd [(.sl 4), (.ex (wC (.int 1)))]))])) [4])))]))), (.ex (wSh (wLc (wiRng1 (wSh (wOp oSub [(.sl 1), (.ex (wC (.int 1)))]))) (wgNm 4) wYes (wSh (wTup [.one (wSh (wOp oAdd [(.sl 1), (.sl 4)])), .one (wSh (wOp oAdd [(.ex (wSh (wOp oAdd [(.sl 1), (.sl 4)]))), (.ex (wC (.int 1)))]))])) [4])))])) (wSeq (wSet 3 (wCall1 1 0 s__law_named [.one (wSh (wCall 2 s__law_web [.one (wSh (wOp oMul [(.ex (wC (.int 2))), (.sl 1)])), .one (wNm 2)]))])) (wRet (wOp oEq [(.ex (wSh (wLst [.one (wSh (wCall 1 s_count_pairings [.one (wNm 3)])), .one (wSh (wOp oLen [(.ex (wSh (wCall 1 s_full_pairings [.one (wNm 3)])))]))]))), (.ex (wSh (wLst [.one (wSh (wOp oIx [(.ex (wSh (wTup [.one (wC (.int 2)), .one (wC (.int 7)), .one (wC (.int 22)), .one (wC (.int 71)), .one (wC (.int 228))]))), (.ex (wSh (wOp oSub [(.sl 1), (.ex (wC (.int 1)))])))])), .one (wSh (wOp oIx [(.ex (wSh (wTup [.one (wC (.int 1)), .one (wC (.int 2)), .one (wC (.int 3)), .one (wC (.int 5)), .one (wC (.int 8))]))), (.ex (wSh (wOp oSub [(.sl 1), (.ex (wC (.int 1)))])))]))])))])))))
def w__law_pairings : WS := (wSeq (wSet 1 (wLst [.one (wSh (wTup []))])) (wSeq (wFor (wiEnum (wSh (wOp oIx [(.sl 0), (.ex (wC (.int 1)))]))) (wgTup 2 (wgCons (wgNm 2) (wgCons (wgTup 2 (wgCons (wgNm 3) (wgCons (wgNm 4) wgNil))) wgNil))) (wSet 1 (wOp oAdd [(.sl 1), (.ex (wSh (wLc (wiSeq (wNm 1)) (wgNm 5) (wTst (wOp oEq [(.ex (wSh (wLc (wiSeq (wNm 5)) (wgNm 6) (wOr (wTst (wOp (oIn false) [(.sl 3), (.ex (wSh (wOp oIx [(.ex (wSh (wOp oIx [(.sl 0), (.ex (wC (.int 1)))]))), (.sl 6)])))])) (wTst (wOp (oIn false) [(.sl 4), (.ex (wSh (wOp oIx [(.ex (wSh (wOp oIx [(.sl 0), (.ex (wC (.int 1)))]))), (.sl 6)])))]))) (wC (.int 1)) [6]))), (.ex (wSh (wLst [])))])) (wSh (wOp oAdd [(.sl 5), (.ex (wSh (wTup [.one (wNm 2)])))])) [5])))]))) (wRet (wOp oSorted [(.sl 1)]))))
def w__law_regular_right : WS := (wSeq (wSet 1 (wOp oAdd [(.ex (wC (.int 1))), (.ex (wSh (wCall1 1 0 s__law_roll [.one (wC (.int 4))])))])) (wSeq (wSet 2 (wOp oAdd [(.ex (wC (.int 1))), (.ex (wSh (wCall1 1 0 s__law_roll [.one (wSh (wOp oMin [(.ex (wC (.int 4))), (.ex (wSh (wOp oFdv [(.ex (wC (.int 20))), (.sl 1)])))]))])))])) (wSeq (wSet 3 (wSumL (wSh (wLc (wiRng1 (wNm 2)) (wgNm 6) wYes (wSh (wLc (wiEnum (wSh (wCall1 1 0 s__law_mixed [.one (wSh (wRg1 .lst .ow (wNm 1)))]))) (wgTup 2 (wgCons (wgNm 7) (wgCons (wgNm 8) wgNil))) wYes (wSh (wTup [.one (wNm 7), .one (wSh (wOp oAdd [(.sl 1), (.sl 8)]))])) [7, 8])) [6])) (wSh (wLst [])))) (wSeq (wSet 4 (wCall1 1 0 s__law_named [.one (wSh (wCall 2 s__law_web [.one (wSh (wOp oMul [(.ex (wC (.int 2))), (.sl 1)])), .one (wNm 3)]))])) (wSeq (wSet 5 (wCall 1 s__law_pairings [.one (wNm 4)])) (wRet (wAndV (wSh (wOp oGe [(.ex (wSh (wOp oLen [(.ex (wSh (wCall 1 s_full_pairings [.one (wNm 4)])))]))), (.sl 2)])) (wOp oEq [(.ex (wSh (wOp oLen [(.ex (wSh (wCall 1 s_full_pairings [.one (wNm 4)])))]))), (.ex (wSh (wOp oLen [(.ex (wSh (wLc (wiSeq (wNm 5)) (wgNm 9) (wTst (wOp oEq [(.ex (wSh (wOp oLen [(.sl 9)]))), (.sl 1)])) (wNm 9) [9])))])))]))))))))
def w_is_web : WS := (wRet (wCall 1 s_is_web_in [.one (wNm 0)]))
def w_most_upto : WS := (wRet (wLc (wiSeq (wSh (wCall 1 s_counts_upto [.one (wNm 0)]))) (wgNm 1) wYes (wSh (wOp oSub [(.ex (wSh (wOp oLen [(.sl 1)]))), (.ex (wC (.int 1)))])) [1]))
def w_most_paired : WS := (wSeq (wDrop (wCall 1 s_require_web [.one (wNm 0)])) (wRet (wOp oIx [(.ex (wSh (wCall 1 s_most_upto [.one (wNm 0)]))), (.ex (wSh (wOp (oU fun i => -i) [(.ex (wC (.int 1)))])))])))
def w__law_are_told : WS := (wSeq (wSet 2 (wIf (wAnd (wTst (wOp oEq [(.ex (wSh (wOp oMod [(.ex (wSh (wOp oIx [(.sl 0), (.ex (wC (.int 0)))]))), (.ex (wC (.int 2)))]))), (.ex (wC (.int 0)))])) (wTst (wOp oGt [(.ex (wSh (wOp oLen [(.sl 1)]))), (.ex (wSh (wOp oFdv [(.ex (wSh (wOp oIx [(.sl 0), (.ex (wC (.int 0)))]))), (.ex (wC (.int 2)))])))]))) (wOp oIx [(.sl 1), (.ex (wSh (wOp oFdv [(.ex (wSh (wOp oIx [(.sl 0), (.ex (wC (.int 0)))]))), (.ex (wC (.int 2)))])))]) (wUn (wC (.int 0))))) (wSeq (wIfS (wOr (wTst (wOp oIsNot [(.ex (wSh (wCall 1 s_is_web [.one (wNm 0)]))), (.ex (wC (.bl true)))])) (wOr (wTst (wOp oNe [(.ex (wSh (wOp oList [(.ex (wSh (wCall 1 s_count_by_ties [.one (wNm 0)])))]))), (.sl 1)])) (wOr (wTst (wOp oNe [(.ex (wSh (wCall 1 s_count_pairings [.one (wNm 0)]))), (.ex (wSh (wOp oSum [(.sl 1)])))])) (wOr (wTst (wOp oNe [(.ex (wSh (wCall 1 s_most_paired [.one (wNm 0)]))), (.ex (wSh (wOp oSub [(.ex (wSh (wOp oLen [(.sl 1)]))), (.ex (wC (.int 1)))])))])) (wTst (wOp oNe [(.ex (wSh (wOp oLen [(.ex (wSh (wCall 1 s_full_pairings [.one (wNm 0)])))]))), (.sl 2)])))))) (wRet (wUn (wC (.bl false)))) wNx) (wRet (wOp oEq [(.ex (wSh (wLc (wiRng2 (wC (.int 1)) (wSh (wOp oSub [(.ex (wSh (wOp oLen [(.sl 1)]))), (.ex (wC (.int 1)))]))) (wgNm 3) (wTst (wOp oLt [(.ex (wSh (wOp oMul [(.ex (wSh (wOp oIx [(.sl 1), (.sl 3)]))), (.ex (wSh (wOp oIx [(.sl 1), (.sl 3)])))]))), (.ex (wSh (wOp oMul [(.ex (wSh (wOp oIx [(.sl 1), (.ex (wSh (wOp oSub [(.sl 3), (.ex (wC (.int 1)))])))]))), (.ex (wSh (wOp oIx [(.sl 1), (.ex (wSh (wOp oAdd [(.sl 3), (.ex (wC (.int 1)))])))])))])))])) (wNm 3) [3]))), (.ex (wSh (wLst [])))]))))
def w__law_drawn : WS := (wSeq (wPar 1 2 (wOp oAdd [(.ex (wC (.int 2))), (.ex (wSh (wCall1 1 0 s__law_roll [.one (wC (.int 9))])))]) (wLst [])) (wSeq (wFor (wiRng1 (wSh (wCall1 1 0 s__law_roll [.one (wC (.int 15))]))) (wgNm 3) (wSeq (wSet 4 (wCall1 1 0 s__law_roll [.one (wNm 1)])) (wDrop (wApp 2 (wSh (wTup [.one (wNm 4), .one (wSh (wOp oMod [(.ex (wSh (wOp oAdd [(.ex (wSh (wOp oAdd [(.sl 4), (.ex (wC (.int 1)))]))), (.ex (wSh (wCall1 1 0 s__law_roll [.one (wSh (wOp oSub [(.sl 1), (.ex (wC (.int 1)))]))])))]))), (.sl 1)]))])))))) (wRet (wCall 2 s__law_web [.one (wNm 1), .one (wNm 2)]))))
def w_reached_from : WS := (wSeq (wPar 3 4 (wDis1 (wNm 2) (wC (.bl true))) (wLst [.one (wNm 2)])) (wSeq (wWhile (wTst (wOp oNe [(.sl 4), (.ex (wSh (wLst [])))])) (wSeq (wSet 5 (wPop 4)) (wFor (wiSeq (wNm 1)) (wgTup 2 (wgCons (wgNm 6) (wgCons (wgNm 7) wgNil))) (wFor (wiSeq (wSh (wTup [.one (wSh (wTup [.one (wNm 6), .one (wNm 7)])), .one (wSh (wTup [.one (wNm 7), .one (wNm 6)]))]))) (wgTup 2 (wgCons (wgNm 8) (wgCons (wgNm 9) wgNil))) (wIfS (wAnd (wTst (wOp oEq [(.sl 8), (.sl 5)])) (wTst (wOp (oIn true) [(.sl 9), (.sl 3)]))) (wSeq (wAsg (wC (.bl true)) (wgIx 3 (wNm 9))) (wDrop (wApp 4 (wNm 9)))) wNx))))) (wRet (wOp oSorted [(.sl 3)]))))
def w_pieces_in : WS := (wSeq (wPar 2 3 (wLst []) wNewK) (wSeq (wFor (wiRng1 (wNm 0)) (wgNm 4) (wIfS (wTst (wOp (oIn true) [(.sl 4), (.sl 3)])) (wSeq (wSet 5 (wCall 3 s_reached_from [.one (wNm 0), .one (wNm 1), .one (wNm 4)])) (wSeq (wDrop (wUpd 3 (wSh (wDc (wiSeq (wNm 5)) (wgNm 6) wYes (wNm 6) (wC (.bl true)) [6])))) (wDrop (wApp 2 (wNm 5))))) wNx)) (wRet (wMv 2))))
def w_pieces : WS := (wSeq (wDrop (wCall 1 s_require_web [.one (wNm 0)])) (wRet (wOp oTuple [(.ex (wSh (wLc (wiSeq (wSh (wCall 2 s_pieces_in [.one (wSh (wOp oIx [(.sl 0), (.ex (wC (.int 0)))])), .one (wSh (wOp oIx [(.sl 0), (.ex (wC (.int 1)))]))]))) (wgNm 1) wYes (wSh (wOp oTuple [(.sl 1)])) [1])))])))
def w__law_counts : WS := (wSeq (wSet 1 (wOp oMax [(.ex (wSh (wLc (wiSeq (wNm 0)) (wgNm 2) wYes (wSh (wOp oLen [(.sl 2)])) [2])))])) (wRet (wLc (wiRng1 (wSh (wOp oAdd [(.sl 1), (.ex (wC (.int 1)))]))) (wgNm 3) wYes (wSh (wOp oLen [(.ex (wSh (wLc (wiSeq (wNm 0)) (wgNm 2) (wTst (wOp oEq [(.ex (wSh (wOp oLen [(.sl 2)]))), (.sl 3)])) (wC (.int 1)) [2])))])) [3])))
def w_is_row_of : WS := (wRet (wAndV (wSh (wIsi "tuple" (.sl 0))) (wOp oAll [(.ex (wSh (wLc (wiSeq (wNm 0)) (wgNm 3) wYes (wSh (wCall 3 s_is_within [.one (wNm 3), .one (wNm 1), .one (wNm 2)])) [3])))])))
def w_is_ascending : WS := (wRet (wOp oAll [(.ex (wSh (wLc (wiZip (wNm 0) (wSh (wOp oSlA [(.sl 0), (.ex (wC (.int 1)))]))) (wgTup 2 (wgCons (wgNm 1) (wgCons (wgNm 2) wgNil))) wYes (wSh (wOp oLt [(.sl 1), (.sl 2)])) [1, 2])))]))
def w_is_rising_row : WS := (wRet (wAndV (wSh (wCall 3 s_is_row_of [.one (wNm 0), .one (wC (.int 0)), .one (wNm 1)])) (wCall 1 s_is_ascending [.one (wNm 0)])))
def w_is_lot_in : WS := (wRet (wCall 2 s_is_rising_row [.one (wNm 1), .one (wSh (wOp oSub [(.sl 0), (.ex (wC (.int 1)))]))]))
def w_require_lot : WS := (wIfS (wNot (wTru (wCall 2 s_is_lot_in [.one (wSh (wOp oIx [(.sl 0), (.ex (wC (.int 0)))])), .one (wNm 1)]))) wNever wNx)
def w_require_web_and_lot : WS := (wSeq (wDrop (wCall 1 s_require_web [.one (wNm 0)])) (wDrop (wCall 2 s_require_lot [.one (wNm 0), .one (wNm 1)])))
def w_told_web : WS := (wRet (wTup [.one (wNm 0), .one (wSh (wOp oTuple [(.ex (wSh (wOp oSorted [(.sl 1)])))]))]))
def w_part_in : WS := (wSeq (wSet 2 (wDc (wiEnum (wNm 1)) (wgTup 2 (wgCons (wgNm 3) (wgCons (wgNm 4) wgNil))) wYes (wNm 4) (wNm 3) [3, 4])) (wRet (wCall 2 s_told_web [.one (wSh (wOp oLen [(.sl 1)])), .one (wSh (wLc (wiSeq (wSh (wOp oIx [(.sl 0), (.ex (wC (.int 1)))]))) (wgTup 2 (wgCons (wgNm 5) (wgCons (wgNm 6) wgNil))) (wAnd (wTst (wOp (oIn false) [(.sl 5), (.sl 2)])) (wTst (wOp (oIn false) [(.sl 6), (.sl 2)]))) (wSh (wTup [.one (wSh (wOp oIx [(.sl 2), (.sl 5)])), .one (wSh (wOp oIx [(.sl 2), (.sl 6)]))])) [5, 6]))])))
def w_part_of : WS := (wSeq (wDrop (wCall 2 s_require_web_and_lot [.one (wNm 0), .one (wNm 1)])) (wSeq (wIfS (wTst (wOp oEq [(.sl 1), (.ex (wSh (wTup [])))])) wNever wNx) (wRet (wCall 2 s_part_in [.one (wNm 0), .one (wNm 1)]))))
def w_require_tie : WS := (wIfS (wNot (wTru (wCall 3 s_is_within [.one (wNm 1), .one (wC (.int 0)), .one (wSh (wOp oSub [(.ex (wSh (wOp oLen [(.ex (wSh (wOp oIx [(.sl 0), (.ex (wC (.int 1)))])))]))), (.ex (wC (.int 1)))]))]))) wNever wNx)
def w_less_tie : WS := (wRet (wTup [.one (wSh (wOp oIx [(.sl 0), (.ex (wC (.int 0)))])), .one (wSh (wOp oAdd [(.ex (wSh (wOp oSlB [(.ex (wSh (wOp oIx [(.sl 0), (.ex (wC (.int 1)))]))), (.sl 1)]))), (.ex (wSh (wOp oSlA [(.ex (wSh (wOp oIx [(.sl 0), (.ex (wC (.int 1)))]))), (.ex (wSh (wOp oAdd [(.sl 1), (.ex (wC (.int 1)))])))])))]))]))
def w_without_tie : WS := (wSeq (wDrop (wCall 1 s_require_web [.one (wNm 0)])) (wSeq (wDrop (wCall 2 s_require_tie [.one (wNm 0), .one (wNm 1)])) (wRet (wCall 2 s_less_tie [.one (wNm 0), .one (wNm 1)]))))
def w__law_drawn_right : WS := (wSeq (wSet 1 (wCall1 0 0 s__law_drawn [])) (wSeq (wSet 2 (wCall 1 s__law_pairings [.one (wNm 1)])) (wSeq (wIfS (wOr (wTst (wOp oNe [(.ex (wSh (wOp oList [(.ex (wSh (wCall 1 s_all_pairings [.one (wNm 1)])))]))), (.sl 2)])) (wNot (wTru (wCall 2 s__law_are_told [.one (wNm 1), .one (wSh (wCall 1 s__law_counts [.one (wNm 2)]))])))) (wRet (wUn (wC (.bl false)))) wNx) (wSeq (wIfS (wTst (wOp oNe [(.ex (wSh (wOp oList [(.ex (wSh (wCall 1 s_full_pairings [.one (wNm 1)])))]))), (.ex (wSh (wLc (wiSeq (wNm 2)) (wgNm 9) (wTst (wOp oEq [(.ex (wSh (wOp oMul [(.ex (wC (.int 2))), (.ex (wSh (wOp oLen [(.sl 9)])))]))), (.ex (wSh (wOp oIx [(.sl 1), (.ex (wC (.int 0)))])))])) (wNm 9) [9])))])) (wRet (wUn (wC (.bl false)))) wNx) (wSeq (wSet 3 (wUn (wC (.int 1)))) (wSeq (wFor (wiSeq (wSh (wCall 1 s_pieces [.one (wNm 1)]))) (wgNm 4) (wSet 3 (wOp oMul [(.sl 3), (.ex (wSh (wCall 1 s_count_pairings [.one (wSh (wCall 2 s_part_of [.one (wNm 1), .one (wNm 4)]))])))]))) (wSeq (wIfS (wTst (wOp oNe [(.sl 3), (.ex (wSh (wOp oLen [(.sl 2)])))])) (wRet (wUn (wC (.bl false)))) wNx) (wSeq (wIfS (wTst (wOp oEq [(.ex (wSh (wOp oIx [(.sl 1), (.ex (wC (.int 1)))]))), (.ex (wSh (wTup [])))])) (wRet (wOp oEq [(.sl 2), (.ex (wSh (wLst [.one (wSh (wTup []))])))])) wNx) (wSeq (wSet 5 (wCall1 1 0 s__law_roll [.one (wSh (wOp oLen [(.ex (wSh (wOp oIx [(.sl 1), (.ex (wC (.int 1)))])))]))])) (wSeq (wAsg (wSh (wOp oIx [(.ex (wSh (wOp oIx [(.sl 1), (.ex (wC (.int 1)))]))), (.sl 5)])) (wgTup 2 (wgCons (wgNm 6) (wgCons (wgNm 7) wgNil)))) (wSeq (wSet 8 (wTup [.one (wSh (wOp oIx [(.sl 1), (.ex (wC (.int 0)))])), .one (wSh (wOp oTuple [(.ex (wSh (wLc (wiSeq (wSh (wOp oIx [(.sl 1), (.ex (wC (.int 1)))]))) (wgNm 10) (wAnd (wTst (wOp (oIn true) [(.sl 6), (.sl 10)])) (wTst (wOp (oIn true) [(.sl 7), (.sl 10)]))) (wNm 10) [10])))]))])) (wRet (wOp oEq [(.ex (wSh (wOp oAdd [(.ex (wSh (wCall 1 s_count_pairings [.one (wSh (wCall 2 s_without_tie [.one (wNm 1), .one (wNm 5)]))]))), (.ex (wSh (wCall 1 s_count_pairings [.one (wNm 8)])))]))), (.ex (wSh (wOp oLen [(.sl 2)])))])))))))))))))
def w_law : WS := (wSeq (wFor (wiRng1 (wSh (wOp oMax [(.ex (wC (.int 1))), (.ex (wSh (wOp oMin [(.ex (wC (.int 2))), (.ex (wSh (wOp oLen [(.sl 0)])))])))]))) (wgNm 1) (wSeq (wSet 2 (wCall 2 s__law_dice [.one (wNm 0), .one (wNm 1)])) (wSeq (wFor (wiRng1 (wC (.int 2))) (wgNm 3) (wSeq (wAsg (wSh (wCall1 0 2 s__law_known [])) (wgTup 2 (wgCons (wgNm 4) (wgCons (wgNm 5) wgNil)))) (wIfS (wOr (wNot (wTru (wCall 2 s__law_are_told [.one (wSh (wCall1 1 2 s__law_named [.one (wNm 4)])), .one (wNm 5)]))) (wNot (wTru (wCall1 0 2 s__law_drawn_right [])))) (wRet (wUn (wC (.bl false)))) wNx))) (wSeq (wIfS (wOr (wNot (wTru (wCall1 0 2 s__law_ladder_right []))) (wNot (wTru (wCall1 0 2 s__law_regular_right [])))) (wRet (wUn (wC (.bl false)))) wNx) (wSeq (wAsg (wSh (wTup [.one (wSh (wCall1 0 2 s__law_known [])), .one (wSh (wCall1 0 2 s__law_known []))])) (wgTup 2 (wgCons (wgTup 2 (wgCons (wgNm 6) (wgCons (wgNm 7) wgNil))) (wgCons (wgTup 2 (wgCons (wgNm 8) (wgCons (wgNm 9) wgNil))) wgNil)))) (wIfS (wAnd (wTst (wOp oLe [(.ex (wSh (wOp oAdd [(.ex (wSh (wOp oIx [(.sl 6), (.ex (wC (.int 0)))]))), (.ex (wSh (wOp oIx [(.sl 8), (.ex (wC (.int 0)))])))]))), (.ex (wC (.int 10)))])) (wTst (wOp oLe [(.ex (wSh (wOp oAdd [(.ex (wSh (wOp oLen [(.ex (wSh (wOp oIx [(.sl 6), (.ex (wC (.int 1)))])))]))), (.ex (wSh (wOp oLen [(.ex (wSh (wOp oIx [(.sl 8), (.ex (wC (.int 1)))])))])))]))), (.ex (wC (.int 20)))]))) (wSeq (wSet 10 (wOp oMul [(.ex (wSh (wLst [.one (wC (.int 0))]))), (.ex (wSh (wOp oSub [(.ex (wSh (wOp oAdd [(.ex (wSh (wOp oLen [(.sl 7)]))), (.ex (wSh (wOp oLen [(.sl 9)])))]))), (.ex (wC (.int 1)))])))])) (wSeq (wFor (wiEnum (wNm 7)) (wgTup 2 (wgCons (wgNm 11) (wgCons (wgNm 12) wgNil))) (wFor (wiEnum (wNm 9)) (wgTup 2 (wgCons (wgNm 13) (wgCons (wgNm 14) wgNil))) (wAsg (wSh (wOp oAdd [(.ex (wSh (wOp oIx [(.sl 10), (.ex (wSh (wOp oAdd [(.sl 11), (.sl 13)])))]))), (.ex (wSh (wOp oMul [(.sl 12), (.sl 14)])))])) (wgIx 10 (wSh (wOp oAdd [(.sl 11), (.sl 13)])))))) (wIfS (wNot (wTru (wCall 2 s__law_are_told [.one (wSh (wCall 2 s__law_web [.one (wSh (wOp oAdd [(.ex (wSh (wOp oIx [(.sl 6), (.ex (wC (.int 0)))]))), (.ex (wSh (wOp oIx [(.sl 8), (.ex (wC (.int 0)))])))])), .one (wSh (wOp oAdd [(.ex (wSh (wOp oList [(.ex (wSh (wOp oIx [(.sl 6), (.ex (wC (.int 1)))])))]))), (.ex (wSh (wLc (wiSeq (wSh (wOp oIx [(.sl 8), (.ex (wC (.int 1)))]))) (wgTup 2 (wgCons (wgNm 12) (wgCons (wgNm 14) wgNil))) wYes (wSh (wTup [.one (wSh (wOp oAdd [(.sl 12), (.ex (wSh (wOp oIx [(.sl 6), (.ex (wC (.int 0)))])))])), .one (wSh (wOp oAdd [(.sl 14), (.ex (wSh (wOp oIx [(.sl 6), (.ex (wC (.int 0)))])))]))])) [12, 14])))]))])), .one (wNm 10)]))) (wRet (wUn (wC (.bl false)))) wNx))) wNx)))))) (wRet (wAndV (wSh (wOp oEq [(.ex (wSh (wCall 1 s_full_pairings [.one (wSh (wTup [.one (wC (.int 3)), .one (wSh (wTup []))]))]))), (.ex (wSh (wTup [])))])) (wAndV (wSh (wOp oEq [(.ex (wSh (wCall 1 s_count_by_ties [.one (wSh (wTup [.one (wC (.int 1)), .one (wSh (wTup []))]))]))), (.ex (wSh (wTup [.one (wC (.int 1))])))])) (wOp oEq [(.ex (wSh (wCall 1 s_all_pairings [.one (wSh (wTup [.one (wC (.int 2)), .one (wSh (wTup [.one (wSh (wTup [.one (wC (.int 0)), .one (wC (.int 1))])), .one (wSh (wTup [.one (wC (.int 0)), .one (wC (.int 1))]))]))]))]))), (.ex (wSh (wTup [.one (wSh (wTup [])), .one (wSh (wTup [.one (wC (.int 0))])), .one (wSh (wTup [.one (wC (.int 1))]))])))])))))

end K44

set_option Elab.async false
set_option linter.all false
set_option maxRecDepth 100000
set_option maxHeartbeats 0
namespace K44
open PySem PySem.Spec PyProof.Rows L2 Z
theorem p_is_pair : ∀ ts Pq, ts.length = 1 → s_is_pair ts Pq → w_is_pair (PE0 Pq) (τ0 1 ts) := by
  intro ts Pq _ h
  unfold s_is_pair at h
  split at h
  · simpa [w_is_pair] using h
  · exact h.elim
theorem p_is_whole : ∀ ts Pq, ts.length = 1 → s_is_whole ts Pq → w_is_whole (PE0 Pq) (τ0 1 ts) := by
  intro ts Pq _ h
  unfold s_is_whole at h
  split at h
  · simpa [w_is_whole] using h
  · exact h.elim
theorem p_is_within : ∀ ts Pq, ts.length = 3 → s_is_within ts Pq → w_is_within (PE0 Pq) (τ0 3 ts) := by
  intro ts Pq _ h
  unfold s_is_within at h
  split at h
  · simpa [w_is_within, h.1, h.2.1] using h.2.2
  · exact h.elim
@[simp] theorem tie_ix0 {t : Tie} : L2.atI [T.int t.1, T.int t.2] 0 = some (.int t.1) := rfl
@[simp] theorem tie_ix1 {t : Tie} : L2.atI [T.int t.1, T.int t.2] 1 = some (.int t.2) := rfl
@[simp] theorem oAll_true {l : List T} {P : T → Md → Prop} : oAll [.lst (l.map fun _ => .bl true)] P ↔ P (.bl true) .sh := by
  have e : (l.map fun _ => T.bl true) = (l.map fun _ => true).map T.bl := by rw [List.map_map]; rfl
  have a : (l.map fun _ => true).all id = true := by
    rw [List.all_eq_true]
    intro b hb
    obtain ⟨_, _, rfl⟩ := List.mem_map.mp hb
    rfl
  rw [e]
  simp only [oAll, blsT_map, a]
theorem p_is_tie_of : ∀ ts Pq, ts.length = 2 → s_is_tie_of ts Pq → w_is_tie_of (PE0 Pq) (τ0 3 ts) := by
  rintro ts Pq _ ⟨n, t, rfl, h1, h2, h⟩
  simp [w_is_tie_of, s_is_pair, tieT, -oAll]
  refine wLc_map (fun _ => .bl true) (fun P h => by simpa using h) (by show 2 ≤ sizeLine; decide) rfl (by simp) (fun u hu R hR => ?_) ?_
  · simp at hu
    rcases hu with rfl | rfl <;> simp <;> exact ⟨by omega, by simpa using hR⟩
  · rw [oAll_true]
    simpa [h1] using h

theorem sz (n : Nat) (h : n ≤ 1000000 := by omega) : n ≤ sizeLine := by rw [sizeLine_eq]; omega
@[simp] theorem web_ix0 {n : Int} {u : T} : L2.atI [T.int n, u] 0 = some (.int n) := rfl
@[simp] theorem web_ix1 {n : Int} {u : T} : L2.atI [T.int n, u] 1 = some u := rfl
@[simp] theorem intsT_tie {t : Tie} : intsT [T.int t.1, T.int t.2] = some [(t.1 : Int), (t.2 : Int)] := rfl
theorem leIs_tie {a b : Tie} (h : lxT a b = true) : leIs [(a.1 : Int), (a.2 : Int)] [(b.1 : Int), (b.2 : Int)] = true := by
  simp [lxT] at h
  simp [leIs, Ob.lexAt]
  split <;> omega
theorem p_is_web_in : ∀ ts Pq, ts.length = 1 → s_is_web_in ts Pq → w_is_web_in (PE0 Pq) (τ0 6 ts) := by
  rintro ts Pq _ ⟨n, l, rfl, ok, h⟩
  have hn0 := ok.n0
  have hn1 := ok.n1
  have hl := ok.le
  simp [w_is_web_in, webT, hn0, hn1, -oAll]
  refine ⟨by omega, by omega, ?_⟩
  rw [if_neg (by simp [tiesT]; omega)]
  refine wLc_map (ts := tiesT l) (fun _ => .bl true) (fun P h => by simpa using h) (sz _ (by simp [tiesT]; omega)) rfl (by simp) (fun u hu R hR => ?_) ?_
  · obtain ⟨t, ht, rfl⟩ := List.mem_map.mp hu
    have := ok.tie t ht
    simp
    exact ⟨n, t, rfl, this.1, this.2, by simpa using hR⟩
  · rw [oAll_true]
    simp only [if_true]
    refine wLc_map0 (ts := (l.zip (l.drop 1)).map fun p => .tup [tieT p.1, tieT p.2]) (fun _ => .bl true) (fun P h => ?_) (sz _ (by simp; omega)) rfl (by simp) (fun u hu R hR => ?_) ?_
    · have e : zipTs (tiesT l) ((tiesT l).drop 1) = (l.zip (l.drop 1)).map fun p => .tup [tieT p.1, tieT p.2] := by
        unfold tiesT
        rw [← List.map_drop, zipTs_map]
      simp
      rw [show (tiesT l).tail = (tiesT l).drop 1 by simp, e]
      exact h
    · obtain ⟨p, hp, rfl⟩ := List.mem_map.mp hu
      have := zip_next ok.srt p hp
      have e : leIs [(p.1.1 : Int), (p.1.2 : Int)] [(p.2.1 : Int), (p.2.2 : Int)] = true := leIs_tie this
      simp [tieT, e]
      exact hR
    · rw [oAll_true]
      exact h
theorem p_require_web : ∀ ts Pq, ts.length = 1 → s_require_web ts Pq → w_require_web (PE0 Pq) (τ0 1 ts) := by
  rintro ts Pq _ ⟨n, l, rfl, ok, h⟩
  simp [w_require_web]
  exact ⟨n, l, rfl, ok, by simpa using h⟩
theorem p_is_web : ∀ ts Pq, ts.length = 1 → s_is_web ts Pq → w_is_web (PE0 Pq) (τ0 1 ts) := by
  rintro ts Pq _ ⟨n, l, rfl, ok, h⟩
  simp [w_is_web]
  exact ⟨n, l, rfl, ok, by simpa using h⟩
theorem p_ties_of : ∀ ts Pq, ts.length = 1 → s_ties_of ts Pq → w_ties_of (PE0 Pq) (τ0 1 ts) := by
  rintro ts Pq _ ⟨n, l, rfl, h⟩
  simpa [w_ties_of, webT] using h
theorem p_is_ascending : ∀ ts Pq, ts.length = 1 → s_is_ascending ts Pq → w_is_ascending (PE0 Pq) (τ0 3 ts) := by
  rintro ts Pq _ ⟨ns, rfl, hl, hp, h⟩
  simp [w_is_ascending, -oAll]
  refine wLc_map0 (ts := (ns.zip (ns.drop 1)).map fun p => .tup [.int p.1, .int p.2]) (fun _ => .bl true) (fun P h => ?_) (sz _ (by simp; omega)) rfl (by simp) (fun u hu R hR => ?_) ?_
  · simp
    rw [show (ns.map T.int).tail = (ns.drop 1).map T.int by simp, zipTs_map]
    exact h
  · obtain ⟨p, hp', rfl⟩ := List.mem_map.mp hu
    have := zip_next hp p hp'
    simp [this]
    exact hR
  · rw [oAll_true]
    exact h
theorem p_is_row_of : ∀ ts Pq, ts.length = 3 → s_is_row_of ts Pq → w_is_row_of (PE0 Pq) (τ0 4 ts) := by
  rintro ts Pq _ ⟨ns, l, m, rfl, hl, hp, h⟩
  simp [w_is_row_of, -oAll]
  refine wLc_map0 (ts := ns.map T.int) (fun _ => .bl true) (fun P h => by simpa using h) (sz _ (by simp; omega)) rfl (by simp) (fun u hu R hR => ?_) ?_
  · obtain ⟨p, hp', rfl⟩ := List.mem_map.mp hu
    have := hp p hp'
    simp [this]
    exact hR
  · rw [oAll_true]
    exact h
theorem p_is_rising_row : ∀ ts Pq, ts.length = 2 → s_is_rising_row ts Pq → w_is_rising_row (PE0 Pq) (τ0 2 ts) := by
  rintro ts Pq _ ⟨ns, m, rfl, hl, hp, ha, h⟩
  simp [w_is_rising_row]
  exact ⟨ns, 0, m, rfl, hl, hp, ns, rfl, hl, ha, h⟩
theorem natsT_eq (r : List Nat) : natsT r = (r.map fun x : Nat => (x : Int)).map T.int := by
  unfold natsT; rw [List.map_map]; rfl
theorem LotOk.len {n : Nat} {r : List Nat} (h : LotOk n r) : r.length ≤ n := by
  have hs : ∀ {k : Nat} {r : List Nat}, AscN r → (∀ x ∈ r, k ≤ x ∧ x < n) → r.length ≤ n - k := by
    intro k r
    induction r generalizing k with
    | nil => intro _ _; simp
    | cons a r ih =>
      intro ha hx
      have h1 := List.pairwise_cons.mp ha
      have h2 := hx a (List.mem_cons_self ..)
      have := ih (k := a + 1) h1.2 fun y hy => ⟨h1.1 y hy, (hx y (List.mem_cons_of_mem _ hy)).2⟩
      rw [List.length_cons]; omega
  have := hs (k := 0) h.asc fun x hx => ⟨Nat.zero_le _, h.lt x hx⟩
  omega
theorem p_is_lot_in : ∀ ts Pq, ts.length = 2 → s_is_lot_in ts Pq → w_is_lot_in (PE0 Pq) (τ0 2 ts) := by
  rintro ts Pq _ ⟨n, r, rfl, hn, ok, h⟩
  simp [w_is_lot_in]
  have hl := ok.len
  refine ⟨r.map fun x : Nat => (x : Int), n - 1, by rw [lotT, natsT_eq], by simp; omega, fun v hv => ?_, ?_, by simpa using h⟩
  · obtain ⟨x, hx, rfl⟩ := List.mem_map.mp hv
    have := ok.lt x hx
    omega
  · rw [List.pairwise_map]
    exact ok.asc.imp fun h => by omega
theorem p_require_lot : ∀ ts Pq, ts.length = 2 → s_require_lot ts Pq → w_require_lot (PE0 Pq) (τ0 2 ts) := by
  rintro ts Pq _ ⟨n, l, r, rfl, hn, ok, h⟩
  simp [w_require_lot, webT]
  exact ⟨n, r, rfl, hn, ok, by simpa using h⟩
theorem p_require_web_and_lot : ∀ ts Pq, ts.length = 2 → s_require_web_and_lot ts Pq → w_require_web_and_lot (PE0 Pq) (τ0 2 ts) := by
  rintro ts Pq _ ⟨n, l, r, rfl, ok, lo, h⟩
  simp [w_require_web_and_lot]
  exact ⟨n, l, rfl, ok, n, l, r, rfl, ok.n1, lo, by simpa using h⟩
theorem p_require_tie : ∀ ts Pq, ts.length = 2 → s_require_tie ts Pq → w_require_tie (PE0 Pq) (τ0 2 ts) := by
  rintro ts Pq _ ⟨n, l, i, rfl, hi, h⟩
  simp [w_require_tie, webT, tiesT]
  exact ⟨by omega, by simpa using h⟩
theorem p_without_tie : ∀ ts Pq, ts.length = 2 → s_without_tie ts Pq → w_without_tie (PE0 Pq) (τ0 2 ts) := by
  rintro ts Pq _ ⟨n, l, i, rfl, ok, hi, h⟩
  simp [w_without_tie]
  exact ⟨n, l, rfl, ok, n, l, i, rfl, hi, n, l, i, rfl, hi, ok.le, by simpa using h⟩
theorem p_less_tie : ∀ ts Pq, ts.length = 2 → s_less_tie ts Pq → w_less_tie (PE0 Pq) (τ0 2 ts) := by
  rintro ts Pq _ ⟨n, l, i, rfl, hi, hl, h⟩
  simp [w_less_tie, webT]
  rw [cutA_to (by omega), cutA_from (by omega)]
  have e1 : ((i : Int)).toNat = i := by omega
  have e2 : ((i : Int) + 1).toNat = i + 1 := by omega
  rw [e1, e2, ← List.eraseIdx_eq_take_drop_succ]
  refine ⟨sz _ (by simp [tiesT]; omega), ?_⟩
  have e : (tiesT l).eraseIdx i = tiesT (l.eraseIdx i) := by unfold tiesT; rw [List.eraseIdx_eq_take_drop_succ, List.eraseIdx_eq_take_drop_succ, List.map_append, List.map_take, List.map_drop]
  rw [e]
  exact h
theorem okS_ties (l : List Tie) : okS (tiesT l) = true := by
  unfold okS
  rw [Bool.or_eq_true]
  refine .inr (List.all_eq_true.mpr fun t ht => ?_)
  obtain ⟨p, _, rfl⟩ := List.mem_map.mp ht
  rfl
theorem sortTs_ties (l : List Tie) : sortTs (tiesT l) = tiesT (srtTies l) := isort_map l
theorem p_told_web : ∀ ts Pq, ts.length = 2 → s_told_web ts Pq → w_told_web (PE0 Pq) (τ0 2 ts) := by
  rintro ts Pq _ ⟨n, l, rfl, h⟩
  simp [w_told_web]
  rw [sortTs_ties]
  exact ⟨okS_ties l, h⟩
end K44

set_option Elab.async false
set_option linter.all false
set_option maxRecDepth 100000
set_option maxHeartbeats 0
namespace K44
open PySem PySem.Spec PyProof.Rows L2 Z
theorem dice_mk {g d : Int} (h1 : 0 ≤ g) (h2 : 0 ≤ d) (h3 : d < 2 ^ 64) : Dice (.lst [.int g, .int d]) := ⟨g, d, rfl, h1, h2, h3⟩
theorem p__law_dice : ∀ ts Pq, ts.length = 2 → s__law_dice ts Pq → w__law_dice (PE0 Pq) (τ0 4 ts) := by
  rintro ts Pq _ ⟨ns, spot, rfl, hs, h⟩
  simp [w__law_dice, intsF, CPow]
  have c1 : CMulW 10000000000000000000000000000000000000000000000000000000 10000000000000000000000000000000000000000000000000000000 := by unfold CMulW; decide +kernel
  have c2 : CMul 7919 spot := .inl ⟨by omega, by omega⟩
  have c3 : ∀ z : Int, CMul 31 z := fun z => .inl ⟨by omega, by omega⟩
  have c4 : CMul 131 spot := .inl ⟨by omega, by omega⟩
  split
  · rename_i hl
    rw [atI_at (x := T.int ns[spot]) (by simp [hl])]
    simp [c1, c2, c3]
    refine h _ (dice_mk (Int.emod_nonneg _ (by decide)) (Int.emod_nonneg _ (by decide)) ?_)
    have := Int.emod_lt_of_pos (a := (if ns[spot] < 0 then -ns[spot] else ns[spot]) % 18446744073709551557 + 7919 * (spot : Int) + 31 * (if ns[spot] < 0 then 1 else 0)) (b := 18446744073709551616) (by decide)
    omega
  · simp [c1, c2, c3, c4]
    refine h _ (dice_mk (Int.emod_nonneg _ (by decide)) (Int.emod_nonneg _ (by decide)) ?_)
    exact Int.lt_of_lt_of_le (Int.emod_lt_of_pos _ (by decide)) (by decide)
theorem p__law_roll : ∀ c ts Pq, ts.length = 1 → s__law_roll c ts Pq → w__law_roll (PE1 Pq) (τ1 3 c ts) := by
  rintro c ts Pq _ ⟨total, rfl, ⟨g, d, rfl, hg, hd, hd2⟩, h1, h2, h⟩
  simp [w__law_roll, CDv]
  have fin : ∀ (x g' d' : Int), 0 ≤ g' → 0 ≤ d' → d' < 2 ^ 64 → Pq (.int (x % total)) .sh (.lst [.int g', .int d']) := fun x g' d' a1 a2 a3 => by
    have b1 := Int.emod_nonneg x (b := total) (by omega)
    have b2 := Int.emod_lt_of_pos x (b := total) (by omega)
    obtain ⟨k, e⟩ := Int.eq_ofNat_of_zero_le b1
    have := h k _ (by omega) (dice_mk a1 a2 a3)
    rw [e]
    exact this
  split
  · refine ⟨by omega, ⟨by omega, by omega⟩, fin g _ d (Int.ediv_nonneg hg (by omega)) hd hd2⟩
  · refine ⟨.inl (.inl ⟨by omega, hd2⟩), by omega, fin _ g _ hg (Int.emod_nonneg _ (by decide)) (Int.emod_lt_of_pos _ (by decide))⟩
theorem p__law_web : ∀ ts Pq, ts.length = 2 → s__law_web ts Pq → w__law_web (PE0 Pq) (τ0 4 ts) := by
  rintro ts Pq _ ⟨n, l, rfl, hl, h⟩
  simp [w__law_web]
  refine wLc_map0 (ts := tiesT l) (fun t => match t with | .tup [.int a, .int b] => .tup [.int (if b < a then b else a), .int (if b > a then b else a)] | _ => .non) (fun P h => by simpa using h) (sz _ (by simp [tiesT]; omega)) rfl (by simp) (fun u hu R hR => ?_) ?_
  · obtain ⟨t, ht, rfl⟩ := List.mem_map.mp hu
    simp [tieT] at hR ⊢
    exact hR
  · have e : (tiesT l).map (fun t => match t with | .tup [.int a, .int b] => T.tup [.int (if b < a then b else a), .int (if b > a then b else a)] | _ => .non) = tiesT (l.map mm) := by
      unfold tiesT
      rw [List.map_map, List.map_map]
      refine List.map_congr_left fun t _ => ?_
      simp only [Function.comp, tieT, mm]
      congr 2
      · congr 1; simp only [Int.ofNat_lt]; split <;> omega
      · congr 2; simp only [gt_iff_lt, Int.ofNat_lt]; split <;> omega
    rw [e]
    show okS _ = true ∧ Pq (T.tup [T.int ↑n, T.tup (sortTs _)]) Md.sh
    rw [sortTs_ties]
    exact ⟨okS_ties _, h⟩
theorem p__law_choose : ∀ ts Pq, ts.length = 2 → s__law_choose ts Pq → w__law_choose (PE0 Pq) (τ0 4 ts) := by
  rintro ts Pq _ ⟨n, k, rfl, hn, hk, h⟩
  simp [w__law_choose]
  refine wFor_n (n := k) (τ1 := [some (.int n, .sh), some (.int k, .sh), some (.int 1, .sh), none]) (fun Q h => ?_) (fun i τ => ∃ u, np u ∧ τ = [some (.int n, .sh), some (.int k, .sh), some (.int (lawChoose n i), .sh), u]) ⟨none, trivial, rfl⟩ ?_ ?_
  · simp; exact ⟨by omega, h⟩
  · rintro i τ hi ⟨u, hu, rfl⟩
    simp [hu, CDv]
    exact ⟨.inl (.inr ⟨by omega, by omega⟩), by omega, by unfold lawChoose; rw [foldl_range]⟩
  · rintro τ ⟨u, hu, rfl⟩
    simpa using h
theorem p__law_factors : ∀ ts Pq, ts.length = 3 → s__law_factors ts Pq → w__law_factors (PE0 Pq) (τ0 5 ts) := by
  rintro ts Pq _ ⟨a, m, s, rfl, ha, hm, hs, h⟩
  simp [w__law_factors]
  refine wFor_n (n := m) (τ1 := [some (.int a, .sh), some (.int m, .sh), some (.int s, .sh), some (.int 1, .sh), none]) (fun Q h => ?_) (fun i τ => ∃ u, np u ∧ τ = [some (.int a, .sh), some (.int m, .sh), some (.int s, .sh), some (.int (lawFactors a i s), .sh), u]) ⟨none, trivial, rfl⟩ ?_ ?_
  · simp; exact ⟨by omega, h⟩
  · rintro i τ hi ⟨u, hu, rfl⟩
    simp [hu]
    have b1 : (s : Int) * i ≤ 1000 * 1000 := by
      have := Int.mul_le_mul (show (s : Int) ≤ 1000 by omega) (show (i : Int) ≤ 1000 by omega) (by omega) (by omega)
      exact this
    have b0 : 0 ≤ (s : Int) * i := Int.mul_nonneg (by omega) (by omega)
    refine ⟨.inl (.inl ⟨by omega, by omega⟩), .inl (.inr ⟨by omega, by omega⟩), by unfold lawFactors; rw [foldl_range]⟩
  · rintro τ ⟨u, hu, rfl⟩
    simpa using h
theorem natsT_app (a b : List Nat) : natsT (a ++ b) = natsT a ++ natsT b := by unfold natsT; rw [List.map_append]
theorem p__law_mixed : ∀ c ts Pq, ts.length = 1 → s__law_mixed c ts Pq → w__law_mixed (PE1 Pq) (τ1 5 c ts) := by
  rintro c ts Pq _ ⟨us, rfl, hc, hl, h⟩
  simp [w__law_mixed]
  refine wFor_map (l := us) (f := fun x : Nat => T.int (x : Int)) (τ1 := [some (c, .pn), some (.lst (natsT us), .sh), some (.lst [], .ow), none, none]) (fun Q h => by simpa [natsT] using h)
    (fun i τ => ∃ c' acc u v, np u ∧ np v ∧ Dice c' ∧ List.Perm acc (us.take i) ∧ τ = [some (c', .pn), some (.lst (natsT us), .sh), some (.lst (natsT acc), .ow), u, v]) ⟨c, [], none, none, by simp, by simp, hc, by simp, rfl⟩ ?_ ?_
  · rintro i x τ e ⟨c', acc, u, v, hu, hv, hd, hp, rfl⟩
    have hlen : acc.length ≤ 1000 := by
      have := hp.length_eq
      rw [List.length_take] at this
      omega
    simp [hu, hv]
    refine ⟨_, rfl, hd, by omega, (by first | omega | (simp; omega)), fun r c2 hr hc2 => ?_⟩
    simp [hv]
    rw [cutA_to (by omega), cutA_from (by omega)]
    have er : ((r : Int)).toNat = r := by omega
    rw [er]
    refine ⟨sz _ (by simp; omega), sz _ (by simp; omega), c2, acc.take r ++ ([x] ++ acc.drop r), _, by simp, _, by simp, hc2, ?_, rfl, ?_, rfl, rfl⟩
    · have h1 : (acc.take r ++ ([x] ++ acc.drop r)).Perm (acc ++ [x]) := by
        have h2 : (acc.take r ++ ([x] ++ acc.drop r)).Perm (acc.take r ++ (acc.drop r ++ [x])) := List.Perm.append_left _ List.perm_append_comm
        rw [← List.append_assoc (acc.take r) (acc.drop r) [x], List.take_append_drop] at h2
        exact h2
      have h3 : us.take (i + 1) = us.take i ++ [x] := by rw [List.take_add_one, e]; rfl
      rw [h3]
      exact h1.trans (hp.append_right _)
    · simp [natsT]
  · rintro τ ⟨c', acc, u, v, hu, hv, hd, hp, rfl⟩
    simp
    exact h acc c' (by simpa using hp) hd
theorem rng_nats (n : Nat) : rngTs 0 (n : Int) = natsT (List.range n) := by
  unfold rngTs natsT
  simp
theorem nats_at {vs : List Nat} {k : Nat} (h : k < vs.length) : L2.atI (natsT vs) (k : Int) = some (.int (vs.getD k 0 : Nat)) := by
  refine atI_at ?_
  unfold natsT
  rw [List.getElem?_map, List.getElem?_eq_getElem h]
  simp [List.getD_eq_getElem?_getD, h]
theorem p__law_named : ∀ c ts Pq, ts.length = 1 → s__law_named c ts Pq → w__law_named (PE1 Pq) (τ1 5 c ts) := by
  rintro c ts Pq _ ⟨n, l, rfl, hc, hn, hl, ht, h⟩
  simp [w__law_named, webT]
  refine ⟨⟨by omega, by omega, by omega, by omega, by omega⟩, List.range n, by rw [rng_nats], hc, by simpa using hn, fun vs c' hp hc' => ?_⟩
  simp
  refine wLc_map0 (ts := tiesT l) (fun t => match t with | .tup [.int a, .int b] => .tup [.int (vs.getD a.toNat 0 : Nat), .int (vs.getD b.toNat 0 : Nat)] | _ => .non) (fun P h => by simpa using h) (sz _ (by simp [tiesT]; omega)) rfl (by simp) (fun u hu R hR => ?_) ?_
  · obtain ⟨t, ht', rfl⟩ := List.mem_map.mp hu
    have ht2 := ht t ht'
    have hlv : vs.length = n := by rw [hp.length_eq]; simp
    have e1 := nats_at (vs := vs) (k := t.1) (by omega)
    have e2 := nats_at (vs := vs) (k := t.2) (by omega)
    simp [tieT, e1, e2] at hR ⊢
    exact hR
  · have e : (tiesT l).map (fun t => match t with | .tup [.int a, .int b] => T.tup [.int (vs.getD a.toNat 0 : Nat), .int (vs.getD b.toNat 0 : Nat)] | _ => .non) = tiesT (l.map fun t => (vs.getD t.1 0, vs.getD t.2 0)) := by
      unfold tiesT
      rw [List.map_map, List.map_map]
      refine List.map_congr_left fun t _ => ?_
      simp [Function.comp, tieT]
    rw [e]
    simp
    refine ⟨n, l.map fun t => (vs.getD t.1 0, vs.getD t.2 0), rfl, by simpa using hl, ?_⟩
    have := h vs c' hp hc'
    rw [List.map_map]
    exact this
end K44

set_option Elab.async false
set_option linter.all false
set_option maxRecDepth 100000
set_option maxHeartbeats 0
namespace K44
open PySem PySem.Spec PyProof.Rows L2 Z
theorem bit_at (m a : Nat) : Builtin.bitAnd ((m : Int) / 2 ^ a) 1 = if m.testBit a = true then 1 else 0 := by
  rw [bitAnd_m1]
  have e : ((m : Int) / 2 ^ a) % 2 = ((m / 2 ^ a % 2 : Nat) : Int) := by
    rw [Int.natCast_emod, Int.natCast_ediv, Int.natCast_pow]; rfl
  rw [e, Nat.testBit_eq_decide_div_mod_eq]
  have := Nat.mod_two_eq_zero_or_one (m / 2 ^ a)
  rcases this with h | h <;> rw [h] <;> simp
theorem bit_clr (m a : Nat) : Builtin.bitAnd (m : Int) (Builtin.bitNot (2 ^ a)) = ((clr m a : Nat) : Int) := by
  have h2 : Builtin.bitNot ((2 : Int) ^ a) = -((2 ^ a : Nat) : Int) - 1 := by
    unfold Builtin.bitNot; rw [Int.natCast_pow]; rfl
  rw [h2]
  unfold clr
  generalize 2 ^ a = k
  unfold Builtin.bitAnd
  have d1 : decide ((0 : Int) ≤ (m : Int)) = true := decide_eq_true (by omega)
  have d2 : decide ((0 : Int) ≤ -(k : Int) - 1) = false := decide_eq_false (by omega)
  rw [d1, d2]
  have e : (Builtin.bitNot (-(k : Int) - 1)).toNat = k := by unfold Builtin.bitNot; omega
  simp only [e, Int.toNat_natCast]
  have := @Nat.and_le_left m k
  omega
theorem p_lowest_place : ∀ ts Pq, ts.length = 1 → s_lowest_place ts Pq → w_lowest_place (PE0 Pq) (τ0 2 ts) := by
  rintro ts Pq _ ⟨m, x, rfl, hx, hb, hlow, h⟩
  simp [w_lowest_place]
  refine wWhile_of (fun k τ => ∃ y, y + k = x ∧ τ = [some (.int m, .sh), some (.int (y : Nat), .sh)]) x ⟨0, by omega, rfl⟩ ?_
  rintro k τ ⟨y, hy, rfl⟩
  simp
  rw [bit_at]
  by_cases hk : y = x
  · subst hk
    rw [hb]
    simpa using h
  · rw [hlow y (by omega)]
    simp
    exact ⟨k - 1, by omega, y + 1, by omega, by omega⟩
theorem natsT_get {r : List Nat} {i : Nat} (h : i < r.length) : (natsT r)[i]? = some (.int ((r[i]?.getD 0 : Nat) : Int)) := by
  unfold natsT
  rw [List.getElem?_map, List.getElem?_eq_getElem h]; rfl
theorem p_added_counts : ∀ ts Pq, ts.length = 2 → s_added_counts ts Pq → w_added_counts (PE0 Pq) (τ0 5 ts) := by
  rintro ts Pq _ ⟨r, q, rfl, hr, hq, h⟩
  have em : (if r.length < q.length then (q.length : Int) else (r.length : Int)) = ((max r.length q.length : Nat) : Int) := by
    split <;> omega
  simp [w_added_counts, rowT]
  rw [em]
  refine wLc_map0 (ts := (List.range (max r.length q.length)).map fun i : Nat => T.int (i : Int)) (fun t => match t with | .int i => .int ((r.getD i.toNat 0 + q.getD i.toNat 0 : Nat)) | _ => .non) (fun P h => ?_) (sz _ (by simp; omega)) rfl (by simp) (fun u hu R hR => ?_) ?_
  · simp only [wiRng1, Z.wNm, List.getElem?_cons_succ, List.getElem?_cons_zero]
    refine ⟨by omega, by omega, ?_⟩
    simpa using h
  · obtain ⟨i, hi, rfl⟩ := List.mem_map.mp hu
    simp at hR ⊢
    refine wLc_pure0 (ts := [.lst (natsT r), .lst (natsT q)]) (fun t => match t with | .lst us => if i < us.length then us[i]? else none | _ => none) (fun P h => by simpa using h) (by simp) rfl (by simp) (fun u hu R hR => ?_) ?_
    · have key : ∀ (z : List Nat), u = .lst (natsT z) → (wgNm 4) u [some (T.lst (natsT r), Md.sh), some (T.lst (natsT q), Md.sh), some (T.int ((max r.length q.length : Nat) : Int), Md.sh), some (T.int i, Md.sh), none] fun τ2 => wTst (wOp oLt [Opd.sl 3, Opd.ex (wSh (wOp oLen [Opd.sl 4]))]) τ2 fun k τ3 =>
          if k = true then (wSh (wOp oIx [Opd.sl 4, Opd.sl 3])) τ3 fun y τ4 => npn τ4 [4] ∧ R (some y) (wipeP τ4 [4]) else npn τ3 [4] ∧ R none (wipeP τ3 [4]) := by
        rintro z rfl
        simp at hR ⊢
        by_cases hi : i < z.length
        · rw [if_pos hi]
          rw [atI_at (natsT_get hi)]
          rw [if_pos hi, natsT_get hi] at hR
          simpa using hR
        · rw [if_neg hi]
          rw [if_neg hi] at hR
          simpa using hR
      simp at hu
      rcases hu with rfl | rfl
      · exact key _ rfl
      · exact key _ rfl
    · have e : ∀ z : List Nat, (if i < (natsT z).length then (natsT z)[i]? else none) = if i < z.length then some (T.int ((z[i]?.getD 0 : Nat) : Int)) else none := fun z => by
        rw [natsT_length]
        split
        · rw [natsT_get (by assumption)]
        · rfl
      simp only [List.filterMap_cons, List.filterMap_nil, e]
      have z0 : ∀ {z : List Nat}, ¬ i < z.length → z[i]?.getD 0 = 0 := fun {z} h => by rw [List.getElem?_eq_none (by omega)]; rfl
      by_cases h1 : i < r.length
      · by_cases h2 : i < q.length
        · simp only [h1, h2, if_true, intsT, Option.map_some]
          simpa using hR
        · rw [z0 h2] at hR
          simp only [h1, h2, if_true, if_false, intsT, Option.map_some]
          simpa using hR
      · by_cases h2 : i < q.length
        · rw [z0 h1] at hR
          simp only [h1, h2, if_true, if_false, intsT, Option.map_some]
          simpa using hR
        · rw [z0 h1, z0 h2] at hR
          simp only [h1, h2, if_false, intsT]
          simpa using hR
  · have e : (List.map (fun t => match t with | .int i => T.int ((r.getD i.toNat 0 + q.getD i.toNat 0 : Nat)) | _ => .non) ((List.range (max r.length q.length)).map fun i : Nat => T.int (i : Int))) = natsT (addR r q) := by
      unfold natsT addR
      rw [List.map_map, List.map_map]
      rfl
    rw [e]
    exact h
end K44

set_option Elab.async false
set_option linter.all false
set_option maxRecDepth 100000
set_option maxHeartbeats 0
namespace K44
open PySem PySem.Spec PyProof.Rows L2 Z
theorem clr_bit : ∀ m < 1024, ∀ a < 10, ∀ b < 10, (clr m a).testBit b = (m.testBit b && !decide (a = b)) := by decide +kernel
theorem clr_lt : ∀ m < 1024, ∀ a < 10, m.testBit a = true → clr m a < m := by decide +kernel
end K44

set_option Elab.async false
set_option linter.all false
set_option maxRecDepth 100000
set_option maxHeartbeats 0
namespace K44
open PySem PySem.Spec PyProof.Rows L2 Z
def chG (x m : Nat) (p : Tie × Nat) : Option (Nat × Nat) := if (tou x p.1 && inM m p.1) = true then some (p.2, clr (clr m p.1.1) p.1.2) else none
theorem p_choices_at : ∀ ts Pq, ts.length = 3 → s_choices_at ts Pq → w_choices_at (PE0 Pq) (τ0 7 ts) := by
  rintro ts Pq _ ⟨l, x, m, rfl, hl, hb, h⟩
  simp [w_choices_at]
  refine wFor_map (l := l.zipIdx) (f := fun p => .tup [.int (p.2 : Nat), tieT p.1]) (τ1 := [some (.lst (tiesT l), .sh), some (.int x, .sh), some (.int m, .sh), some (.lst [], .ow), none, none, none]) (fun Q h => ?_)
    (fun i τ => ∃ u v w, np u ∧ np v ∧ np w ∧ τ = [some (.lst (tiesT l), .sh), some (.int x, .sh), some (.int m, .sh), some (.lst (((l.zipIdx.take i).filterMap (chG x m)).map chT), .ow), u, v, w]) ⟨none, none, none, by simp, by simp, by simp, rfl⟩ ?_ ?_
  · simp
    rw [show tiesT l = l.map tieT from rfl, enumTs_map]
    exact h
  · rintro i p τ e ⟨u, v, w, hu, hv, hw, rfl⟩
    have hp : p.1 ∈ l := by
      have := List.mem_of_getElem? e
      exact List.fst_mem_of_mem_zipIdx this
    have b := hb p.1 hp
    have c1 : CPow 1 (p.1.1 : Int) := ⟨by omega, by omega, by decide⟩
    have c2 : CPow 1 (p.1.2 : Int) := ⟨by omega, by omega, by decide⟩
    have hsz : ((l.zipIdx.take i).filterMap (chG x m)).length ≤ 100 := by
      have h1 := List.length_filterMap_le (chG x m) (l.zipIdx.take i)
      have h2 : (l.zipIdx.take i).length ≤ l.zipIdx.length := List.length_take_le' ..
      simp at h2 ⊢
      simp at h1
      omega
    have ht : (l.zipIdx.take (i + 1)).filterMap (chG x m) = (l.zipIdx.take i).filterMap (chG x m) ++ (chG x m p).toList := by
      rw [take_succ_get e, List.filterMap_append]
      cases hq : chG x m p <;> simp [hq]
    have hx : (((p.1.1 : Nat) : Int) = (x : Int) ∨ ((p.1.2 : Nat) : Int) = (x : Int)) ↔ tou x p.1 = true := by
      unfold tou
      simp only [Bool.or_eq_true, decide_eq_true_eq]
      omega
    simp [hu, hv, hw, tieT, bit_at, bit_clr, c1, c2]
    rw [ht]
    by_cases q1 : tou x p.1 = true
    · rw [if_pos (hx.mpr q1)]
      by_cases q2 : m.testBit p.1.1 = true
      · rw [if_pos q2]
        by_cases q3 : m.testBit p.1.2 = true
        · rw [if_pos q3]
          have eg : chG x m p = some (p.2, clr (clr m p.1.1) p.1.2) := by unfold chG inM; rw [q1, q2, q3]; rfl
          rw [eg]
          exact ⟨Nat.lt_of_lt_of_le (Nat.lt_succ_of_le hsz) (sz _), _, by simp, _, by simp, _, by simp, by simp [chT], rfl, rfl, rfl⟩
        · rw [if_neg q3]
          have eg : chG x m p = none := by unfold chG inM; simp [q3]
          rw [eg]
          exact ⟨_, by simp, _, by simp, _, by simp, by simp, rfl, rfl, rfl⟩
      · rw [if_neg q2]
        have eg : chG x m p = none := by unfold chG inM; simp [q2]
        rw [eg]
        exact ⟨_, by simp, _, by simp, _, by simp, by simp, rfl, rfl, rfl⟩
    · rw [if_neg (fun z => q1 (hx.mp z))]
      have eg : chG x m p = none := by unfold chG; simp [q1]
      rw [eg]
      exact ⟨_, by simp, _, by simp, _, by simp, by simp, rfl, rfl, rfl⟩
  · rintro τ ⟨u, v, w, hu, hv, hw, rfl⟩
    simp
    have e : l.zipIdx.filterMap (chG x m) = ch x m l := rfl
    have e2 : (l.zipIdx.take l.length) = l.zipIdx := List.take_of_length_le (by simp)
    rw [e2, e]
    exact h
/-! the choices at the lowest place -/
theorem ch_snd (x m : Nat) : ∀ (l : List Tie) (s : Nat), (((l.zipIdx s).filterMap (chG x m)).map (·.2)) = (hold x (sub m l)).map fun t => clr (clr m t.1) t.2
  | [], _ => rfl
  | t :: l, s => by
    rw [List.zipIdx_cons, List.filterMap_cons]
    have ih := ch_snd x m l (s + 1)
    unfold hold sub at ih ⊢
    rw [List.filter_cons]
    by_cases q1 : tou x t = true
    · by_cases q2 : inM m t = true
      · have eg : chG x m (t, s) = some (s, clr (clr m t.1) t.2) := by unfold chG; simp [q1, q2]
        rw [eg, if_pos q2, List.filter_cons, if_pos q1, List.map_cons, List.map_cons, ih]
      · have eg : chG x m (t, s) = none := by unfold chG; simp [q2]
        rw [eg, if_neg q2]
        exact ih
    · have eg : chG x m (t, s) = none := by unfold chG; simp [q1]
      rw [eg]
      by_cases q2 : inM m t = true
      · rw [if_pos q2, List.filter_cons, if_neg q1]
        exact ih
      · rw [if_neg q2]
        exact ih
theorem clr_le (m a : Nat) : clr m a ≤ m := Nat.sub_le _ _
/-- ties of at most ten places -/
def Ten (l : List Tie) : Prop := ∀ t ∈ l, t.1 < 10 ∧ t.2 < 10
theorem sub_ten {m : Nat} {l : List Tie} (h : Ten l) : Ten (sub m l) := fun t ht => h t (List.mem_filter.mp ht).1
theorem off_clr {x m : Nat} {l : List Tie} (h : Ten l) (hm : m < 1024) (hx : x < 10) : off x (sub m l) = sub (clr m x) l := by
  unfold off sub
  rw [List.filter_filter]
  refine List.filter_congr fun t ht => ?_
  have b := h t ht
  unfold inM tou
  rw [clr_bit m hm x hx t.1 b.1, clr_bit m hm x hx t.2 b.2]
  rw [Bool.eq_iff_iff]
  simp only [Bool.and_eq_true, Bool.not_eq_true', Bool.or_eq_false_iff, decide_eq_false_iff_not]
  constructor
  · rintro ⟨⟨a, b⟩, c, d⟩; exact ⟨⟨c, fun z => a z.symm⟩, d, fun z => b z.symm⟩
  · rintro ⟨⟨c, a⟩, d, b⟩; exact ⟨⟨fun z => a z.symm, fun z => b z.symm⟩, c, d⟩
theorem away_clr {x m : Nat} {l : List Tie} (h : Ten l) (hm : m < 1024) {t : Tie} (ht : t ∈ hold x (sub m l)) : away t (off x (sub m l)) = sub (clr (clr m t.1) t.2) l := by
  have hh := List.mem_filter.mp ht
  have hs := List.mem_filter.mp hh.1
  have bt := h t hs.1
  unfold off sub away
  rw [List.filter_filter, List.filter_filter]
  refine List.filter_congr fun u hu => ?_
  have b := h u hu
  have hm1 : clr m t.1 < 1024 := Nat.lt_of_le_of_lt (clr_le _ _) hm
  unfold inM
  rw [clr_bit _ hm1 t.2 bt.2 u.1 b.1, clr_bit _ hm1 t.2 bt.2 u.2 b.2, clr_bit m hm t.1 bt.1 u.1 b.1, clr_bit m hm t.1 bt.1 u.2 b.2]
  have hx := hh.2
  unfold meets
  unfold tou at hx ⊢
  simp only [Bool.or_eq_true, decide_eq_true_eq] at hx
  generalize m.testBit u.1 = A
  generalize m.testBit u.2 = B
  rw [Bool.eq_iff_iff]
  simp only [Bool.and_eq_true, Bool.not_eq_true', Bool.or_eq_false_iff, decide_eq_false_iff_not]
  grind
end K44

set_option Elab.async false
set_option linter.all false
set_option maxRecDepth 100000
set_option maxHeartbeats 0
namespace K44
open PySem PySem.Spec PyProof.Rows L2 Z
theorem WebOk.ten {n : Nat} {l : List Tie} (h : WebOk n l) : Ten l := fun t ht => by
  have := h.tie t ht
  have := h.n1
  omega
theorem sub_full {n : Nat} {l : List Tie} (h : WebOk n l) : sub (2 ^ n - 1) l = l := by
  unfold sub
  rw [List.filter_eq_self]
  intro t ht
  have b := h.tie t ht
  unfold inM
  rw [Nat.testBit_two_pow_sub_one, Nat.testBit_two_pow_sub_one]
  simp; omega
theorem sub_zero (l : List Tie) : sub 0 l = [] := by
  unfold sub
  rw [List.filter_eq_nil_iff]
  intro t _
  simp [inM]
theorem pow_le {n : Nat} (h : n ≤ 10) : 2 ^ n ≤ 1024 := Nat.pow_le_pow_right (by decide) h
theorem low_bit : ∀ m < 1024, 0 < m → ∃ x < 10, m.testBit x = true ∧ ∀ y < x, m.testBit y = false := by decide +kernel
theorem Row.len {r : List Nat} {l : List Tie} (h : Row r (cM l)) : r.length ≤ l.length + 1 := by
  have t := h.top
  by_cases hl : r.length - 1 ≤ l.length
  · omega
  · exact absurd (cM_big _ l (by omega)) t
theorem sub_len (m : Nat) (l : List Tie) : (sub m l).length ≤ l.length := List.length_filter_le _ _
theorem sum_shf (L : List Tie) (g : Tie → List Tie) (k : Nat) : (L.map fun t => shf (cM (g t)) (k + 1)).sum = (L.map fun t => cM (g t) k).sum := rfl
/-- the row at a mask, built up -/
theorem row_step {x m : Nat} {l : List Tie} (h : Ten l) (hm : m < 1024) (hx : x < 10) : ∀ k, cM (sub (clr m x) l) k + ((hold x (sub m l)).map fun t => shf (cM (sub (clr (clr m t.1) t.2) l)) k).sum = cM (sub m l) k := fun k => by
  cases k with
  | zero =>
    have : ∀ L : List Tie, (L.map fun t => shf (cM (sub (clr (clr m t.1) t.2) l)) 0).sum = 0 := fun L => by
      induction L with
      | nil => rfl
      | cons t L ih => rw [List.map_cons, List.sum_cons, ih]; rfl
    rw [this, cM_zero, cM_zero]
  | succ k =>
    rw [sum_shf, cM_at x (sub m l) k, off_clr h hm hx]
    congr 2
    refine List.map_congr_left fun t ht => ?_
    rw [← off_clr h hm hx, away_clr h hm ht]
theorem map_sum_zero {α : Type} {f : α → Nat} : ∀ {L : List α}, (∀ x ∈ L, f x = 0) → (L.map f).sum = 0
  | [], _ => rfl
  | x :: L, h => by rw [List.map_cons, List.sum_cons, h x (List.mem_cons_self ..), map_sum_zero fun y hy => h y (List.mem_cons_of_mem _ hy)]
theorem acc_len {acc : List Nat} {l : List Tie} {a : Nat} {L : List Nat} (hl : l.length ≤ 20) (h : Row acc fun q => cM (sub a l) q + (L.map fun rest => shf (cM (sub rest l)) q).sum) : acc.length ≤ 22 := by
  have t := h.top
  by_cases hq : acc.length - 1 ≤ 21
  · omega
  · refine absurd ?_ t
    obtain ⟨q, hq2⟩ : ∃ q, acc.length - 1 = q + 1 := ⟨acc.length - 2, by omega⟩
    have h1 := sub_len a l
    rw [hq2, cM_big _ _ (by omega), map_sum_zero (fun rest _ => ?_)]
    have h2 := sub_len rest l
    exact cM_big q _ (by omega)
theorem ch_lt {x m : Nat} {l : List Tie} (h : Ten l) (hm : m < 1024) {p : Nat × Nat} (hp : p ∈ ch x m l) : p.2 < m := by
  obtain ⟨q, hq, e⟩ := List.mem_filterMap.mp hp
  have ht := h q.1 (List.fst_mem_of_mem_zipIdx hq)
  split at e
  · rename_i hc
    cases e
    simp only [Bool.and_eq_true, inM] at hc
    have h1 := clr_lt m hm q.1.1 ht.1 hc.2.1
    exact Nat.lt_of_le_of_lt (clr_le _ _) h1
  · cases e
theorem p_counts_upto : ∀ ts Pq, ts.length = 1 → s_counts_upto ts Pq → w_counts_upto (PE0 Pq) (τ0 8 ts) := by
  rintro ts Pq _ ⟨n, l, rfl, ok, h⟩
  have hn1 := ok.n1
  have hp := pow_le hn1
  have hten := ok.ten
  have hll := ok.le
  have c1 : CPow 1 (n : Int) := ⟨by omega, by omega, by decide⟩
  simp [w_counts_upto]
  refine ⟨n, l, rfl, ?_⟩
  simp
  have hp2 : (2 : Int) ^ n = ((2 ^ n : Nat) : Int) := by rw [Int.natCast_pow]; rfl
  have hpp : 0 < 2 ^ n := Nat.two_pow_pos n
  obtain ⟨J, hJ⟩ : ∃ J : Nat → PSt → Prop, J = fun i τ => ∃ (rows : List (List Nat)) (m1 : Md) (u3 u4 u5 u6 u7 : Option (T × Md)), rows.length = i + 1 ∧ (∀ m, m < i + 1 → Row (rows.getD m []) (cM (sub m l))) ∧ (m1 = .sh ∨ m1 = .ow) ∧ np u3 ∧ np u4 ∧ np u5 ∧ np u6 ∧ np u7 ∧
      τ = [some (webT n l, .sh), some (.lst (tiesT l), m1), some (.lst (rows.map rowT), .ow), u3, u4, u5, u6, u7] := ⟨_, rfl⟩
  refine wFor_map (l := List.range (2 ^ n - 1)) (f := fun k : Nat => T.int ((k + 1 : Nat) : Int)) (τ1 := [some (webT n l, .sh), some (.lst (tiesT l), .ow), some (.lst [.lst [.int 1]], .ow), none, none, none, none, none]) (fun Q h => ?_)
    J ?_ ?_ ?_
  · have e3 : ((2 : Int) ^ n).toNat = 2 ^ n := by rw [hp2]; omega
    simp [webT, c1]
    rw [e3]
    refine ⟨⟨by rw [hp2]; omega, by rw [hp2]; omega⟩, ?_⟩
    have e4 : (List.range (2 ^ n - 1)).map (fun k : Nat => T.int (1 + (k : Int))) = (List.range (2 ^ n - 1)).map fun k : Nat => T.int ((k + 1 : Nat) : Int) := List.map_congr_left fun k _ => by congr 1; omega
    rw [e4]
    exact h
  · rw [hJ]
    refine ⟨[[1]], .ow, none, none, none, none, none, rfl, fun m hm => ?_, .inr rfl, by simp, by simp, by simp, by simp, by simp, rfl⟩
    have : m = 0 := by omega
    subst this
    rw [sub_zero]
    exact Row.one
  · intro i k τ e p
    rw [hJ] at p
    obtain ⟨rows, m1, u3, u4, u5, u6, u7, hl, hrow, hm1, h3, h4, h5, h6, h7, rfl⟩ := p
    have hi : i < 2 ^ n - 1 := by
      have := (List.getElem?_eq_some_iff.mp e).1
      simpa using this
    have hki : k = i := by
      rw [List.getElem?_range hi] at e
      cases e; rfl
    subst hki
    obtain ⟨x, hx, hb, hlow⟩ := low_bit (k + 1) (by omega) (by omega)
    have cx : CPow 1 (x : Int) := ⟨by omega, by omega, by decide⟩
    have hcl := clr_lt (k + 1) (by omega) x hx hb
    simp [h3]
    refine ⟨k + 1, x, rfl, by omega, hb, hlow, ?_⟩
    have ebit : Builtin.bitAnd ((k : Int) + 1) (Builtin.bitNot (2 ^ x)) = ((clr (k + 1) x : Nat) : Int) := bit_clr (k + 1) x
    have eat : L2.atI (rows.map rowT) ((clr (k + 1) x : Nat) : Int) = some (rowT (rows.getD (clr (k + 1) x) [])) := by
      refine atI_at ?_
      rw [List.getElem?_map, List.getD_eq_getElem?_getD, List.getElem?_eq_getElem (by omega)]
      rfl
    simp [h4, h5, cx, ebit, eat]
    have hr0 : Row (rows.getD (clr (k + 1) x) []) (cM (sub (clr (k + 1) x) l)) := hrow _ hcl
    have hrl : ∀ m, m < k + 1 → (rows.getD m []).length ≤ 21 := fun m hm => by
      have := (hrow m hm).len
      have := sub_len m l
      omega
    obtain ⟨I, hI⟩ : ∃ I : Nat → PSt → Prop, I = fun j τ => ∃ (acc : List Nat) (m1 m5 : Md) (u6 u7 : Option (T × Md)), Row acc (fun q => cM (sub (clr (k + 1) x) l) q + ((((ch x (k + 1) l).take j).map (·.2)).map fun rest => shf (cM (sub rest l)) q).sum) ∧ (m1 = .sh ∨ m1 = .ow) ∧ (m5 = .sh ∨ m5 = .ow) ∧ np u6 ∧ np u7 ∧
      τ = [some (webT n l, .sh), some (.lst (tiesT l), m1), some (.lst (rows.map rowT), .ow), some (.int ((k + 1 : Nat) : Int), .sh), some (.int x, .sh), some (rowT acc, m5), u6, u7] := ⟨_, rfl⟩
    refine wFor_map (l := ch x (k + 1) l) (f := chT) (τ1 := [some (webT n l, .sh), some (.lst (tiesT l), .sh), some (.lst (rows.map rowT), .ow), some (.int ((k + 1 : Nat) : Int), .sh), some (.int x, .sh), some (rowT (rows.getD (clr (k + 1) x) []), .sh), u6, u7]) (fun Q hQ => ?_) I ?_ ?_ ?_
    · rcases hm1 with rfl | rfl
      all_goals
        simp
        refine ⟨l, x, k + 1, rfl, by omega, fun t ht => by have := hten t ht; omega, ?_⟩
        simpa using hQ
    · rw [hI]
      refine ⟨_, .sh, .sh, u6, u7, ?_, .inl rfl, .inl rfl, h6, h7, rfl⟩
      simpa using hr0
    · intro j p τ e p2
      rw [hI] at p2
      obtain ⟨acc, m1, m5, u6, u7, hacc, hm1, hm5, h6, h7, rfl⟩ := p2
      have hpl := ch_lt hten (by omega) (List.mem_of_getElem? e)
      have eat2 : L2.atI (rows.map rowT) ((p.2 : Nat) : Int) = some (rowT (rows.getD p.2 [])) := by
        refine atI_at ?_
        rw [List.getElem?_map, List.getD_eq_getElem?_getD, List.getElem?_eq_getElem (by omega)]
        rfl
      have e0 : T.int 0 :: natsT (rows.getD p.2 []) = natsT (0 :: rows.getD p.2 []) := rfl
      have hrr := hrl p.2 hpl
      have hal := acc_len hll hacc
      have fin : ∀ m1 : Md, (m1 = .sh ∨ m1 = .ow) → s_added_counts [rowT acc, rowT (0 :: rows.getD p.2 [])] fun t m => I (j + 1) [some (webT n l, .sh), some (.lst (tiesT l), m1), some (.lst (rows.map rowT), .ow), some (.int ((k + 1 : Nat) : Int), .sh), some (.int x, .sh), some (t, m), some (.int (p.1 : Nat), .sh), some (.int (p.2 : Nat), .sh)] := fun m1 hm1 => by
        refine ⟨acc, 0 :: rows.getD p.2 [], rfl, by omega, by simp only [List.length_cons]; omega, ?_⟩
        rw [hI]
        refine ⟨addR acc (0 :: rows.getD p.2 []), m1, .ow, _, _, ?_, hm1, .inr rfl, np_sh, np_sh, rfl⟩
        refine (hacc.add (hrow p.2 hpl).shift).congr fun q => ?_
        rw [take_succ_get e, List.map_append, List.map_append, List.sum_append]
        simp; omega
      rcases hm5 with rfl | rfl
      all_goals
        simp [chT, h6, h7]
        simp only [List.getD_eq_getElem?_getD] at eat2 e0 fin
        rw [eat2]
        simp only [rowT, seqT]
        rw [e0]
        refine ⟨sz _ (by simp only [List.getD_eq_getElem?_getD] at hrr; simp; omega), fin m1 hm1⟩
    · intro τ p
      rw [hI] at p
      obtain ⟨acc, m1, m5, u6, u7, hacc, hm1, hm5, h6, h7, rfl⟩ := p
      have e2 : ((ch x (k + 1) l).take (ch x (k + 1) l).length).map (·.2) = (hold x (sub (k + 1) l)).map fun t => clr (clr (k + 1) t.1) t.2 := by
        rw [List.take_length]
        exact ch_snd x (k + 1) l 0
      rw [e2] at hacc
      have hfull : Row acc (cM (sub (k + 1) l)) := hacc.congr fun q => by
        rw [List.map_map]
        exact row_step hten (by omega) hx q
      have fin : J (k + 1) [some (webT n l, .sh), some (.lst (tiesT l), m1), some (.lst (rows.map rowT ++ [rowT acc]), .ow), some (.int ((k + 1 : Nat) : Int), .sh), some (.int x, .sh), some (rowT acc, .sh), u6, u7] := by
        rw [hJ]
        refine ⟨rows ++ [acc], m1, _, _, _, _, _, by simp [hl], fun m hm => ?_, hm1, np_sh, np_sh, np_sh, h6, h7, by simp; exact ⟨rfl, rfl, rfl⟩⟩
        by_cases hmk : m < k + 1
        · rw [List.getD_eq_getElem?_getD, List.getElem?_append_left (by omega), ← List.getD_eq_getElem?_getD]
          exact hrow m hmk
        · have : m = k + 1 := by omega
          subst this
          rw [List.getD_eq_getElem?_getD, List.getElem?_append_right (by omega), hl]
          simpa using hfull
      rcases hm5 with rfl | rfl
      all_goals
        simp
        exact ⟨Nat.lt_of_lt_of_le (show rows.length < 2000 by omega) (sz 2000), fin⟩
  · intro τ p
    rw [hJ] at p
    obtain ⟨rows, m1, u3, u4, u5, u6, u7, hl, hrow, hm1, h3, h4, h5, h6, h7, rfl⟩ := p
    simp at hl hrow
    simp
    exact h rows ⟨by omega, fun m hm => hrow m (by omega)⟩
end K44

set_option Elab.async false
set_option linter.all false
set_option maxRecDepth 100000
set_option maxHeartbeats 0
namespace K44
open PySem PySem.Spec PyProof.Rows L2 Z
theorem Rows.top {n : Nat} {l : List Tie} {rows : List (List Nat)} (ok : WebOk n l) (h : Rows n l rows) : Row (rows.getD (rows.length - 1) []) (cM l) := by
  have hp : 0 < 2 ^ n := Nat.two_pow_pos n
  rw [h.len]
  have := h.row (2 ^ n - 1) (by omega)
  rw [sub_full ok] at this
  exact this
theorem Rows.get {n : Nat} {l : List Tie} {rows : List (List Nat)} (h : Rows n l rows) : rows[rows.length - 1]? = some (rows.getD (rows.length - 1) []) := by
  have hp : 0 < 2 ^ n := Nat.two_pow_pos n
  have := h.len
  rw [List.getD_eq_getElem?_getD, List.getElem?_eq_getElem (by omega)]
  rfl
theorem p_counts_in : ∀ ts Pq, ts.length = 1 → s_counts_in ts Pq → w_counts_in (PE0 Pq) (τ0 1 ts) := by
  rintro ts Pq _ ⟨n, l, rfl, ok, h⟩
  simp [w_counts_in]
  refine ⟨n, l, rfl, ok, fun rows hr => ?_⟩
  have e : L2.atI (rows.map rowT) (-1) = some (rowT (rows.getD (rows.length - 1) [])) := by
    refine atI_last ?_
    rw [List.length_map, List.getElem?_map, hr.get]; rfl
  simp [e]
  have := h _ (hr.top ok)
  simpa using this
theorem p_most_upto : ∀ ts Pq, ts.length = 1 → s_most_upto ts Pq → w_most_upto (PE0 Pq) (τ0 2 ts) := by
  rintro ts Pq _ ⟨n, l, rfl, ok, h⟩
  simp [w_most_upto]
  have hpw := pow_le ok.n1
  have hp : 0 < 2 ^ n := Nat.two_pow_pos n
  refine wLc_mapS (fun us => ∃ rows, Rows n l rows ∧ us = rows.map rowT) (fun t => match t with | .lst us => .int ((us.length : Int) - 1) | _ => .non) (fun P hP => ?_) rfl (by simp) ?_
  · simp
    exact ⟨n, l, rfl, ok, fun rows hr => by simpa using hP _ ⟨rows, hr, rfl⟩⟩
  · rintro us ⟨rows, hr, rfl⟩
    have hlen := hr.len
    refine ⟨sz _ (by simp; omega), fun u hu R hR => ?_, ?_⟩
    · obtain ⟨r, hm, rfl⟩ := List.mem_map.mp hu
      simpa [rowT] using hR
    · have e : (rows.map rowT).map (fun t => match t with | .lst us => T.int ((us.length : Int) - 1) | _ => .non) = natsT (rows.map fun r => r.length - 1) := by
        unfold natsT
        rw [List.map_map, List.map_map]
        refine List.map_congr_left fun r hm => ?_
        obtain ⟨i, hi, ei⟩ := List.getElem_of_mem hm
        have hrow := hr.row i (by omega)
        rw [List.getD_eq_getElem?_getD, List.getElem?_eq_getElem hi, Option.getD_some, ei] at hrow
        have hpos := List.length_pos_iff.mpr hrow.ne
        simp only [Function.comp, rowT, natsT_length]
        congr 1; omega
      rw [e]
      exact h rows hr
theorem p_most_paired : ∀ ts Pq, ts.length = 1 → s_most_paired ts Pq → w_most_paired (PE0 Pq) (τ0 1 ts) := by
  rintro ts Pq _ ⟨n, l, rfl, ok, h⟩
  simp [w_most_paired]
  refine ⟨n, l, rfl, ok, n, l, rfl, ok, fun rows hr => ?_⟩
  have e : L2.atI (natsT (rows.map fun r => r.length - 1)) (-1) = some (.int (((rows.getD (rows.length - 1) []).length - 1 : Nat) : Int)) := by
    refine atI_last ?_
    unfold natsT
    rw [List.length_map, List.length_map, List.getElem?_map, List.getElem?_map, hr.get]; rfl
  simp [e]
  have := h _ (hr.top ok)
  simpa using this
theorem p_count_by_ties : ∀ ts Pq, ts.length = 1 → s_count_by_ties ts Pq → w_count_by_ties (PE0 Pq) (τ0 1 ts) := by
  rintro ts Pq _ ⟨n, l, rfl, ok, h⟩
  simp [w_count_by_ties]
  exact ⟨n, l, rfl, ok, n, l, rfl, ok, fun r hr => by simpa [rowT] using h r hr⟩
theorem intsT_nats (r : List Nat) : intsT (natsT r) = some (r.map fun x : Nat => (x : Int)) := by rw [natsT_eq, intsT_map]
theorem sum_cast (r : List Nat) : (r.map fun x : Nat => (x : Int)).sum = ((r.sum : Nat) : Int) := by
  induction r with
  | nil => rfl
  | cons x r ih => rw [List.map_cons, List.sum_cons, List.sum_cons, ih]; omega
theorem p_count_pairings : ∀ ts Pq, ts.length = 1 → s_count_pairings ts Pq → w_count_pairings (PE0 Pq) (τ0 1 ts) := by
  rintro ts Pq _ ⟨n, l, rfl, ok, h⟩
  simp [w_count_pairings]
  refine ⟨n, l, rfl, ok, n, l, rfl, ok, fun r hr => ?_⟩
  simp [rowT, intsT_nats, sum_cast, hr.sum]
  exact h
end K44

set_option Elab.async false
set_option linter.all false
set_option maxRecDepth 100000
set_option maxHeartbeats 0
namespace K44
open PySem PySem.Spec PyProof.Rows L2 Z
def usedL (l : List Tie) (s : List Nat) : List Nat := s.flatMap fun j => [(tieAt l j).1, (tieAt l j).2]
def wtT (l : List Tie) (w : List Nat × Nat) : T := .tup [pT w.1, .int (w.2 : Nat), .tup (natsT (usedL l w.1))]
theorem sh_nats {r : List Nat} : ∀ t ∈ natsT r, sh 0 t := fun t ht => by
  obtain ⟨x, _, rfl⟩ := List.mem_map.mp ht
  exact sh_int
theorem sh_pT {s : List Nat} : sh 1 (pT s) := sh_tup sh_nats
theorem sh_pTs {L : List (List Nat)} : ∀ t ∈ L.map pT, sh 1 t := fun t ht => by
  obtain ⟨x, _, rfl⟩ := List.mem_map.mp ht
  exact sh_pT
theorem sh_wt {l : List Tie} {w : List Nat × Nat} : sh 2 (wtT l w) := sh_tup fun t ht => by
  simp at ht
  rcases ht with rfl | rfl | rfl
  · exact sh_pT
  · exact sh_int
  · exact sh_tup sh_nats
theorem tsh_wts {l : List Tie} {W : List (List Nat × Nat)} : tsh (.lst (W.map (wtT l))) = true := sh_tsh (d := 3) (sh_lst fun t ht => by
  obtain ⟨x, _, rfl⟩ := List.mem_map.mp ht
  exact sh_wt)
theorem any_nats {r : List Nat} {a : Nat} : ((natsT r).any fun z => teq z (.int (a : Nat))) = r.contains a := by
  unfold natsT
  rw [List.any_map, Bool.eq_iff_iff]
  simp only [List.any_eq_true, Function.comp, teq_int, decide_eq_true_eq, List.contains_iff_mem]
  constructor
  · rintro ⟨x, hx, e⟩
    have : x = a := by omega
    subst this; exact hx
  · intro h; exact ⟨a, h, rfl⟩
theorem all_flat {r : List Nat} : (natsT r).all flT = true := by
  rw [List.all_eq_true]
  intro t ht
  obtain ⟨x, _, rfl⟩ := List.mem_map.mp ht
  rfl
theorem oIn_nats {neg : Bool} {a : Nat} {r : List Nat} {P : T → Md → Prop} : oIn neg [.int (a : Nat), .tup (natsT r)] P ↔ P (.bl (neg ^^ r.contains a)) .sh := by
  show (flT (.int (a : Nat)) = true ∧ (natsT r).all flT = true ∧ P (.bl (neg ^^ (natsT r).any fun z => teq z (.int (a : Nat)))) .sh) ↔ _
  rw [any_nats]
  exact ⟨fun h => h.2.2, fun h => ⟨rfl, all_flat, h⟩⟩
theorem used_ok {l : List Tie} {s : List Nat} {t : Tie} : okP l t s = (!(usedL l s).contains t.1 && !(usedL l s).contains t.2) := by
  induction s with
  | nil => rfl
  | cons j s ih =>
    have e : usedL l (j :: s) = (tieAt l j).1 :: (tieAt l j).2 :: usedL l s := rfl
    have e2 : okP l t (j :: s) = (!meets t (tieAt l j) && okP l t s) := rfl
    rw [e2, ih, e]
    unfold meets tou
    rw [Bool.eq_iff_iff]
    simp only [Bool.and_eq_true, Bool.not_eq_true', Bool.or_eq_false_iff, decide_eq_false_iff_not, List.contains_eq_mem, List.mem_cons, not_or]
    grind
theorem ties_at {l : List Tie} {k : Nat} (h : k < l.length) : L2.atI (tiesT l) (k : Int) = some (tieT (tieAt l k)) := by
  refine atI_at ?_
  unfold tiesT tieAt
  rw [List.getElem?_map, List.getD_eq_getElem?_getD, List.getElem?_eq_getElem h]; rfl
theorem tM_20 {l : List Tie} (h : l.length ≤ 20) : tM l ≤ 1048576 := Nat.le_trans (tM_pow l.length l (Nat.le_refl _)) (Nat.le_trans (Nat.pow_le_pow_right (by decide) h) (by decide))
theorem usedL_len {l : List Tie} {s : List Nat} : (usedL l s).length = 2 * s.length := by
  induction s with
  | nil => rfl
  | cons j s ih =>
    show (([(tieAt l j).1, (tieAt l j).2] : List Nat) ++ usedL l s).length = _
    rw [List.length_append, ih]
    simp; omega
theorem p_pairings_in : ∀ ts Pq, ts.length = 1 → s_pairings_in ts Pq → w_pairings_in (PE0 Pq) (τ0 10 ts) := by
  rintro ts Pq _ ⟨n, l, rfl, hl, h⟩
  have htm := tM_20 hl
  simp [w_pairings_in]
  refine ⟨n, l, rfl, ?_⟩
  simp
  obtain ⟨W, hW⟩ : ∃ W : Nat → PSt → Prop, W = fun k τ => ∃ (F : List (List Nat)) (S : List (List Nat × Nat)) (u4 u5 u6 u7 u8 u9 : Option (T × Md)), k = (S.flatMap (rst l)).length ∧ (F ++ S.flatMap (rst l)).Perm (allP l) ∧ (∀ w ∈ S, w.2 ≤ l.length ∧ w.1.length ≤ w.2) ∧ np u4 ∧ np u5 ∧ np u6 ∧ np u7 ∧ np u8 ∧ np u9 ∧
      τ = [some (webT n l, .sh), some (.lst (tiesT l), .ow), some (.lst (S.map (wtT l)), .ow), some (.lst (F.map pT), .ow), u4, u5, u6, u7, u8, u9] := ⟨_, rfl⟩
  refine wWhile_of W (rst l ([], 0)).length ?_ ?_
  · rw [hW]
    refine ⟨[], [([], 0)], none, none, none, none, none, none, by simp, ?_, by simp, by simp, by simp, by simp, by simp, by simp, by simp, rfl⟩
    simp [rst]
    exact (allP_ext l).symm
  · intro k τ p
    rw [hW] at p
    obtain ⟨F, S, u4, u5, u6, u7, u8, u9, hk, hp, hS, h4, h5, h6, h7, h8, h9, rfl⟩ := p
    simp
    refine ⟨tsh_wts, ?_⟩
    by_cases he : S = []
    · subst he
      simp
      refine h F ?_
      simpa using hp
    · obtain ⟨S0, w, rfl⟩ : ∃ S0 w, S = S0 ++ [w] := ⟨S.dropLast, S.getLast he, (List.dropLast_concat_getLast he).symm⟩
      have hw2 := (hS w (by simp)).1
      have hw1 := (hS w (by simp)).2
      have hul : (usedL l w.1).length = 2 * w.1.length := usedL_len
      have hlen := hp.length_eq
      rw [allP_len, List.length_append] at hlen
      have hfl := flat_len (l := l) (S0 ++ [w])
      have hS0 : S0.length ≤ 1048576 := by rw [List.length_append] at hfl; omega
      have hF : F.length ≤ 1048576 := by omega
      simp
      refine ⟨wtT l w, ⟨w.1, w.2, rfl, rfl⟩, ?_⟩
      simp [wtT, h4, h5, h6]
      refine ⟨Nat.lt_of_lt_of_le (show F.length < 1048577 by omega) (by rw [sizeLine_eq]; decide), ?_⟩
      obtain ⟨J, hJ⟩ : ∃ J : Nat → PSt → Prop, J = fun i τ => ∃ (u7 u8 u9 : Option (T × Md)), np u7 ∧ np u8 ∧ np u9 ∧
        τ = [some (webT n l, .sh), some (.lst (tiesT l), .ow), some (.lst ((S0 ++ (List.range' w.2 i).filterMap (kid l w.1)).map (wtT l)), .ow), some (.lst ((F ++ [w.1]).map pT), .ow), some (pT w.1, .sh), some (.int (w.2 : Nat), .sh), some (.tup (natsT (usedL l w.1)), .sh), u7, u8, u9] := ⟨_, rfl⟩
      refine wFor_map (l := List.range (l.length - w.2)) (f := fun k : Nat => T.int ((w.2 + k : Nat) : Int)) (τ1 := [some (webT n l, .sh), some (.lst (tiesT l), .ow), some (.lst (S0.map (wtT l)), .ow), some (.lst (F.map pT ++ [pT w.1]), .ow), some (pT w.1, .sh), some (.int (w.2 : Nat), .sh), some (.tup (natsT (usedL l w.1)), .sh), u7, u8, u9]) (fun Q hQ => ?_) J ?_ ?_ ?_
      · have e2 : (tiesT l).length = l.length := by simp [tiesT]
        simp [e2]
        have e3 : (List.range (l.length - w.2)).map (fun k : Nat => T.int ((w.2 : Int) + (k : Int))) = (List.range (l.length - w.2)).map fun k : Nat => T.int ((w.2 + k : Nat) : Int) := List.map_congr_left fun k _ => by congr 1
        rw [e3]
        exact ⟨⟨by omega, by omega⟩, hQ⟩
      · rw [hJ]
        exact ⟨u7, u8, u9, h7, h8, h9, by simp⟩
      · intro i kk τ e p
        rw [hJ] at p
        obtain ⟨u7, u8, u9, h7, h8, h9, rfl⟩ := p
        have hi : i < l.length - w.2 := by
          have := (List.getElem?_eq_some_iff.mp e).1
          simpa using this
        have hki : kk = i := by
          rw [List.getElem?_range hi] at e
          cases e; rfl
        subst hki
        have hat := ties_at (l := l) (k := w.2 + kk) (by omega)
        have hk0 : ((List.range' w.2 kk).filterMap (kid l w.1)).length ≤ kk := Nat.le_trans (List.length_filterMap_le ..) (by simp)
        have hrr : (List.range' w.2 (kk + 1)).filterMap (kid l w.1) = (List.range' w.2 kk).filterMap (kid l w.1) ++ (kid l w.1 (w.2 + kk)).toList := by
          rw [List.range'_concat, List.filterMap_append]
          simp only [Nat.one_mul]
          cases hq : kid l w.1 (w.2 + kk) <;> simp [hq]
        simp only [Int.natCast_add] at hat
        simp [h7, hat, tieT, h8, h9, oIn_nats, -oIn, pT]
        have hst : ∀ σ : PSt, J (kk + 1) σ → J (kk + 1) σ := fun _ h => h
        by_cases ho : okP l (tieAt l (w.2 + kk)) w.1 = true
        · have hno := used_ok (l := l) (s := w.1) (t := tieAt l (w.2 + kk))
          rw [ho] at hno
          have hno := hno.symm
          simp only [Bool.and_eq_true, Bool.not_eq_true', List.contains_eq_mem, decide_eq_false_iff_not] at hno
          rw [if_neg hno.1, if_neg hno.2]
          have hkid : kid l w.1 (w.2 + kk) = some (w.1 ++ [w.2 + kk], w.2 + kk + 1) := by unfold kid; rw [if_pos ho]
          refine ⟨by rw [sizeLine_eq]; omega, by rw [sizeLine_eq]; omega, by rw [sizeLine_eq]; omega, ?_⟩
          rw [hJ]
          refine ⟨some (.int ((w.2 : Int) + (kk : Int)), .sh), some (.int ((tieAt l (w.2 + kk)).1 : Nat), .sh), some (.int ((tieAt l (w.2 + kk)).2 : Nat), .sh), np_sh, np_sh, np_sh, ?_⟩
          rw [hrr, hkid]
          simp [wtT, pT, natsT, usedL]
        · have hno := used_ok (l := l) (s := w.1) (t := tieAt l (w.2 + kk))
          have ho' : okP l (tieAt l (w.2 + kk)) w.1 = false := by simpa using ho
          rw [ho'] at hno
          have hkid : kid l w.1 (w.2 + kk) = none := by unfold kid; rw [if_neg ho]
          have hJ1 : J (kk + 1)
              [some (webT n l, Md.sh), some (T.lst (tiesT l), Md.ow),
                some
                  (T.lst (List.map (wtT l) S0 ++ List.map (wtT l) (List.filterMap (kid l w.fst) (List.range' w.snd kk))),
                    Md.ow),
                some (T.lst (List.map pT F ++ [T.tup (natsT w.fst)]), Md.ow), some (T.tup (natsT w.fst), Md.sh),
                some (T.int ↑w.snd, Md.sh), some (T.tup (natsT (usedL l w.fst)), Md.sh), some (T.int (↑w.snd + ↑kk), Md.sh),
                some (T.int ↑(tieAt l (w.snd + kk)).fst, Md.sh), some (T.int ↑(tieAt l (w.snd + kk)).snd, Md.sh)] := by
            rw [hJ]
            refine ⟨some (.int ((w.2 : Int) + (kk : Int)), .sh), some (.int ((tieAt l (w.2 + kk)).1 : Nat), .sh), some (.int ((tieAt l (w.2 + kk)).2 : Nat), .sh), np_sh, np_sh, np_sh, ?_⟩
            rw [hrr, hkid]
            simp [wtT, pT]
          by_cases h1 : (tieAt l (w.2 + kk)).1 ∈ usedL l w.1
          · rw [if_pos h1]; exact hJ1
          · rw [if_neg h1]
            have h2 : (tieAt l (w.2 + kk)).2 ∈ usedL l w.1 := by
              by_cases h2 : (tieAt l (w.2 + kk)).2 ∈ usedL l w.1
              · exact h2
              · simp [h1, h2] at hno
            rw [if_pos h2]; exact hJ1
      · intro τ p
        rw [hJ] at p
        obtain ⟨u7, u8, u9, h7, h8, h9, rfl⟩ := p
        have hr := rst_kids l w.1 (l.length - w.2) w.2 (by omega)
        refine ⟨((S0 ++ (List.range' w.2 (l.length - w.2)).filterMap (kid l w.1)).flatMap (rst l)).length, ?_, ?_⟩
        · have h1 := hr.length_eq
          rw [List.length_append] at h1
          have e5 : [w].flatMap (rst l) = rst l w := by simp
          have hk2 := hk
          rw [List.flatMap_append, e5, List.length_append] at hk2
          rw [List.flatMap_append, List.length_append]
          have e6 : ([w.1] : List (List Nat)).length = 1 := rfl
          rw [e6] at h1
          have e7 : (rst l (w.1, w.2)).length = (rst l w).length := rfl
          rw [e7] at h1
          omega
        · rw [hW]
          refine ⟨F ++ [w.1], S0 ++ (List.range' w.2 (l.length - w.2)).filterMap (kid l w.1), some (pT w.1, .sh), some (.int (w.2 : Nat), .sh), some (.tup (natsT (usedL l w.1)), .sh), u7, u8, u9, rfl, ?_, fun v hv => ?_, np_sh, np_sh, np_sh, h7, h8, h9, by simp⟩
          · refine List.Perm.trans ?_ hp
            rw [List.flatMap_append, List.flatMap_append, List.append_assoc]
            refine List.Perm.append_left _ ?_
            have e5 : [w].flatMap (rst l) = rst l w := by simp
            rw [e5]
            refine List.Perm.trans ?_ (List.Perm.append_left _ hr.symm)
            rw [← List.append_assoc, ← List.append_assoc]
            exact List.Perm.append_right _ List.perm_append_comm
          · rcases List.mem_append.mp hv with hv | hv
            · exact hS v (List.mem_append_left _ hv)
            · obtain ⟨j, hj, ej⟩ := List.mem_filterMap.mp hv
              unfold kid at ej
              split at ej
              · cases ej
                obtain ⟨i, hi1, hi2⟩ := List.mem_range'.mp hj
                have hx : (w.1 ++ [j]).length = w.1.length + 1 := by simp
                show j + 1 ≤ l.length ∧ (w.1 ++ [j]).length ≤ j + 1
                omega
              · cases ej
end K44

set_option Elab.async false
set_option linter.all false
set_option maxRecDepth 100000
set_option maxHeartbeats 0
namespace K44
open PySem PySem.Spec PyProof.Rows L2 Z
theorem wLc_pureA {α : Type} {f : α → T} {l : List α} {wi : WI} {g : WG} {c : WB} {el : WV} {vs : List Nat} {τ τ1 : PSt} {Q : T → Md → PSt → Prop} (F : α → Option T) (hi : ∀ P : List T → PSt → Prop, P (l.map f) τ1 → wi τ P) (hl : l.length ≤ sizeLine) (hw : wipeP τ1 vs = τ1) (hn : npn τ1 vs)
    (step : ∀ x ∈ l, ∀ R : Option T → PSt → Prop, R (F x) τ1 → g (f x) τ1 fun τ2 => c τ2 fun k τ3 => if k = true then el τ3 fun y τ4 => npn τ4 vs ∧ R (some y) (wipeP τ4 vs) else npn τ3 vs ∧ R none (wipeP τ3 vs))
    (fin : Q (.lst (l.filterMap F)) .ow τ1) : wLc wi g c el vs τ Q := by
  refine hi _ ⟨by simpa using hl, fun i acc τ' => τ' = τ1 ∧ acc = (l.take i).filterMap F, fun i acc τ' h => by rw [h.1]; exact hn, ⟨rfl, by simp⟩, fun i t acc τ' e h => ?_, fun acc τ' h => ?_⟩
  · obtain ⟨rfl, rfl⟩ := h
    rw [hw]
    rw [List.getElem?_map] at e
    cases q : l[i]? with
    | none => rw [q] at e; cases e
    | some x =>
      rw [q] at e; cases e
      have hm : x ∈ l := List.mem_of_getElem? q
      refine step x hm (fun o τ2 => match o with | some y => τ2 = τ' ∧ (l.take i).filterMap F ++ [y] = (l.take (i + 1)).filterMap F | none => τ2 = τ' ∧ (l.take i).filterMap F = (l.take (i + 1)).filterMap F) ?_
      have ht : l.take (i + 1) = l.take i ++ [x] := take_succ_get q
      rw [ht, List.filterMap_append]
      cases hF : F x with
      | none => simp [hF]
      | some y => simp [hF]
  · obtain ⟨rfl, rfl⟩ := h
    rw [hw, List.length_map, List.take_length]
    exact fin
theorem nat_inj {a b : List Nat} (h : (a.map fun x : Nat => (x : Int)) = b.map fun x : Nat => (x : Int)) : a = b := by
  induction a generalizing b with
  | nil => cases b with
    | nil => rfl
    | cons => cases h
  | cons x a ih => cases b with
    | nil => cases h
    | cons y b =>
      simp only [List.map_cons, List.cons.injEq] at h
      rw [ih h.2]
      congr 1
      omega
theorem swo_ltP : SrtO.Swo ltP := ZS.swo_lexk fun a : List Nat => a.map fun x : Nat => (x : Int)
theorem srtP_perm (L : List (List Nat)) : (srtP L).Perm L := isort_perm L
theorem srtP_eq {L M : List (List Nat)} (h : L.Perm M) : srtP L = srtP M :=
  srtd_uniq (fun a _ b _ h1 h2 => nat_inj (lex_anti h1 h2)) ((srtP_perm L).trans (h.trans (srtP_perm M).symm)) (isort_srtd swo_ltP L) (isort_srtd swo_ltP M)
theorem okS_pT (L : List (List Nat)) : okS (L.map pT) = true := by
  unfold okS
  rw [Bool.or_eq_true]
  refine .inr (List.all_eq_true.mpr fun t ht => ?_)
  obtain ⟨p, _, rfl⟩ := List.mem_map.mp ht
  show (intsT (natsT p)).isSome = true
  rw [intsT_nats]; rfl
theorem keyL_pT (a : List Nat) : keyL (pT a) = a.map fun x : Nat => (x : Int) := by
  show (intsT (natsT a)).getD [] = _
  rw [intsT_nats]; rfl
theorem sortTs_pT (L : List (List Nat)) : sortTs (L.map pT) = (srtP L).map pT := by
  unfold sortTs srtP
  rw [isort_map]
  congr 1
  congr 1
  funext a b
  unfold ltT ltP
  rw [keyL_pT, keyL_pT]
theorem p_all_pairings : ∀ ts Pq, ts.length = 1 → s_all_pairings ts Pq → w_all_pairings (PE0 Pq) (τ0 1 ts) := by
  rintro ts Pq _ ⟨n, l, rfl, ok, h⟩
  simp [w_all_pairings]
  refine ⟨n, l, rfl, ok, n, l, rfl, ok.le, fun L hL => ?_⟩
  simp [sortTs_pT]
  refine ⟨okS_pT L, ?_⟩
  rw [srtP_eq hL]
  exact h
theorem p_full_pairings : ∀ ts Pq, ts.length = 1 → s_full_pairings ts Pq → w_full_pairings (PE0 Pq) (τ0 1 ts) := by
  rintro ts Pq _ ⟨n, l, rfl, ok, h⟩
  simp [w_full_pairings]
  refine ⟨n, l, rfl, ok, n, l, rfl, ok, fun L hL => ?_⟩
  simp [sortTs_pT]
  refine ⟨okS_pT L, ?_⟩
  rw [srtP_eq hL]
  exact h
theorem apS_len (l : List Tie) (p : TI) (L : List (List Nat)) : (apS l L p).length ≤ 2 * L.length := by
  unfold apS
  rw [List.length_append, List.length_map]
  have := List.length_filter_le (okP l p.1) L
  omega
theorem fold_len (l : List Tie) : ∀ (q : List TI) (L : List (List Nat)), (q.foldl (apS l) L).length ≤ 2 ^ q.length * L.length
  | [], L => by simp
  | p :: q, L => by
    rw [List.foldl_cons, List.length_cons, Nat.pow_succ]
    refine Nat.le_trans (fold_len l q _) ?_
    rw [Nat.mul_assoc]
    exact Nat.mul_le_mul_left _ (apS_len l p L)
theorem fold_mem (l : List Tie) : ∀ (q : List TI) (L : List (List Nat)) (d : Nat), ∀ s ∈ q.foldl (apS l) L, (∀ r ∈ L, (∀ j ∈ r, j < l.length) ∧ r.length ≤ d) → (∀ p ∈ q, p.2 < l.length) → (∀ j ∈ s, j < l.length) ∧ s.length ≤ d + q.length
  | [], L, d, s, hs, hL, _ => by
    have := hL s hs
    exact ⟨this.1, by simpa using this.2⟩
  | p :: q, L, d, s, hs, hL, hq => by
    rw [List.foldl_cons] at hs
    have := fold_mem l q (apS l L p) (d + 1) s hs (fun r hr => by
      rcases List.mem_append.mp hr with hr | hr
      · have := hL r hr
        exact ⟨this.1, by omega⟩
      · obtain ⟨r0, hr0, rfl⟩ := List.mem_map.mp hr
        have := hL r0 (List.mem_filter.mp hr0).1
        refine And.intro (fun j hj => ?_) (by simp; omega)
        rcases List.mem_append.mp hj with hj | hj
        · exact this.1 j hj
        · have hj2 : j = p.2 := by simpa using hj
          rw [hj2]
          exact hq p (List.mem_cons_self ..)) fun u hu => hq u (List.mem_cons_of_mem _ hu)
    rw [List.length_cons]
    exact ⟨this.1, by omega⟩
theorem p__law_pairings : ∀ ts Pq, ts.length = 1 → s__law_pairings ts Pq → w__law_pairings (PE0 Pq) (τ0 7 ts) := by
  rintro ts Pq _ ⟨n, l, rfl, hl, h⟩
  simp [w__law_pairings]
  obtain ⟨J, hJ⟩ : ∃ J : Nat → PSt → Prop, J = fun i τ => ∃ (u2 u3 u4 : Option (T × Md)), np u2 ∧ np u3 ∧ np u4 ∧
        τ = [some (webT n l, .sh), some (.lst (((l.zipIdx.take i).foldl (apS l) [[]]).map pT), .ow), u2, u3, u4, none, none] := ⟨_, rfl⟩
  refine wFor_map (l := l.zipIdx) (f := fun p : TI => T.tup [.int (p.2 : Nat), tieT p.1]) (τ1 := [some (webT n l, .sh), some (.lst [.tup []], .ow), none, none, none, none, none]) (fun Q hQ => ?_) J ?_ ?_ ?_
  · simp [webT]
    have := enumTs_map (f := tieT) l
    unfold tiesT
    rw [this]
    exact hQ
  · rw [hJ]
    exact ⟨none, none, none, by simp, by simp, by simp, by simp [pT, natsT]⟩
  · intro i p τ e q
    rw [hJ] at q
    obtain ⟨u2, u3, u4, h2, h3, h4, rfl⟩ := q
    simp [tieT, h2, h3, h4]
    have hiL : i < l.length := by
      have := (List.getElem?_eq_some_iff.mp e).1
      simpa using this
    have hp : p = (tieAt l i, i) := by
      obtain ⟨h1, h2⟩ := List.getElem?_eq_some_iff.mp e
      rw [← h2, List.getElem_zipIdx]
      unfold tieAt
      rw [List.getD_eq_getElem?_getD, List.getElem?_eq_getElem hiL]
      simp
    have hmem : ∀ s ∈ (l.zipIdx.take i).foldl (apS l) [[]], (∀ j ∈ s, j < l.length) ∧ s.length ≤ 0 + (l.zipIdx.take i).length := fun s hs =>
      fold_mem l _ _ 0 s hs (fun r hr => by
        have : r = [] := by simpa using hr
        subst this
        exact ⟨fun _ h => (List.not_mem_nil h).elim, Nat.le_refl _⟩) fun u hu => by
          have := (List.mem_zipIdx (List.mem_of_mem_take hu)).2.1
          omega
    have hlen : ((l.zipIdx.take i).foldl (apS l) [[]]).length ≤ 1048576 := by
      refine Nat.le_trans (fold_len l _ _) ?_
      have : (l.zipIdx.take i).length ≤ 20 := by simp; omega
      rw [List.length_cons, List.length_nil, Nat.mul_one]
      exact Nat.le_trans (Nat.pow_le_pow_right (by decide) this) (by decide)
    have hnx : (l.zipIdx.take (i + 1)).foldl (apS l) [[]] = apS l ((l.zipIdx.take i).foldl (apS l) [[]]) p := by
      rw [take_succ_get e, List.foldl_append]; rfl
    obtain ⟨fd, hfd⟩ : ∃ fd, fd = (l.zipIdx.take i).foldl (apS l) [[]] := ⟨_, rfl⟩
    rw [← hfd] at hmem hlen hnx ⊢
    refine wLc_pureA (l := fd) (f := pT) (τ1 := [some (webT n l, .sh), some (.lst (fd.map pT), .sh), some (.int (p.2 : Nat), .sh), some (.int (p.1.1 : Nat), .sh), some (.int (p.1.2 : Nat), .sh), none, none]) (fun s => if okP l p.1 s = true then some (pT (s ++ [p.2])) else none) (fun P hP => ?_) (by rw [sizeLine_eq]; omega) rfl (by simp) (fun s hs R hR => ?_) ?_
    · simp
      exact hP
    · have hm := hmem s hs
      have hl20 : (l.zipIdx.take i).length ≤ 20 := by simp; omega
      simp [pT]
      refine wLc_pureA (l := s) (f := fun x : Nat => T.int (x : Nat)) (τ1 := [some (webT n l, .sh), some (.lst (fd.map pT), .sh), some (.int (p.2 : Nat), .sh), some (.int (p.1.1 : Nat), .sh), some (.int (p.1.2 : Nat), .sh), some (.tup (natsT s), .sh), none]) (fun j => if meets p.1 (tieAt l j) = true then some (.int 1) else none) (fun P hP => ?_) (by rw [sizeLine_eq]; omega) rfl (by simp) (fun j hj R2 hR2 => ?_) ?_
      · simp
        exact hP
      · have hat := ties_at (hm.1 j hj)
        have hoi : ∀ (a : Nat) (P : T → Md → Prop), oIn false [.int (a : Nat), tieT (tieAt l j)] P ↔ P (.bl (tou a (tieAt l j))) .sh := fun a P => by
          have := oIn_nats (neg := false) (a := a) (r := [(tieAt l j).1, (tieAt l j).2]) (P := P)
          unfold natsT at this
          unfold tieT
          simp only [List.map_cons, List.map_nil] at this
          rw [this, Bool.false_xor]
          have e : [(tieAt l j).1, (tieAt l j).2].contains a = tou a (tieAt l j) := by
            unfold tou
            rw [Bool.eq_iff_iff]
            simp
            grind
          rw [e]
        simp [webT, hat, hoi, -oIn]
        unfold meets at hR2
        by_cases h1 : tou p.1.1 (tieAt l j) = true
        · simp [h1] at hR2 ⊢
          exact hR2
        · by_cases h2 : tou p.1.2 (tieAt l j) = true
          · simp [h1, h2] at hR2 ⊢
            exact hR2
          · simp [h1, h2] at hR2 ⊢
            exact hR2
      · have hE : (List.filterMap (fun j => if meets p.1 (tieAt l j) = true then some (T.int 1) else none) s).isEmpty = okP l p.1 s := by
          have : ∀ s : List Nat, (List.filterMap (fun j => if meets p.1 (tieAt l j) = true then some (T.int 1) else none) s).isEmpty = okP l p.1 s := fun s => by
            induction s with
            | nil => rfl
            | cons j s ih =>
              rw [List.filterMap_cons]
              have e2 : okP l p.1 (j :: s) = (!meets p.1 (tieAt l j) && okP l p.1 s) := rfl
              rw [e2, ← ih]
              cases meets p.1 (tieAt l j) <;> rfl
          exact this s
        refine ⟨sh_tsh (d := 1) (sh_lst fun t ht => by
          obtain ⟨j, _, ej⟩ := List.mem_filterMap.mp ht
          split at ej
          · cases ej; exact sh_int
          · cases ej), ?_⟩
        rw [teq_lst0, hE]
        by_cases ho : okP l p.1 s = true
        · rw [if_pos ho] at hR ⊢
          simp
          refine ⟨by rw [sizeLine_eq]; omega, ?_⟩
          have e9 : natsT s ++ [T.int (p.2 : Nat)] = natsT (s ++ [p.2]) := by simp [natsT]
          rw [e9]
          exact hR
        · rw [if_neg ho] at hR ⊢
          simp
          exact hR
    · have hF : fd.filterMap (fun s => if okP l p.1 s = true then some (pT (s ++ [p.2])) else none) = ((fd.filter (okP l p.1)).map fun s => s ++ [p.2]).map pT := by
        clear hmem hlen hnx hfd
        induction fd with
        | nil => rfl
        | cons s fd ih =>
          rw [List.filterMap_cons, ih, List.filter_cons]
          cases okP l p.1 s <;> rfl
      rw [hF]
      have hfl := List.length_filter_le (okP l p.1) fd
      simp
      refine ⟨by rw [sizeLine_eq]; omega, ?_⟩
      rw [hJ]
      refine ⟨some (.int (p.2 : Nat), .sh), some (.int (p.1.1 : Nat), .sh), some (.int (p.1.2 : Nat), .sh), np_sh, np_sh, np_sh, ?_⟩
      rw [hnx]
      simp [apS]
  · intro τ p
    rw [hJ] at p
    obtain ⟨u2, u3, u4, h2, h3, h4, rfl⟩ := p
    rw [List.take_length]
    simp [sortTs_pT]
    exact ⟨okS_pT _, h⟩
end K44

set_option Elab.async false
set_option linter.all false
set_option maxRecDepth 100000
set_option maxHeartbeats 0
namespace K44
open PySem PySem.Spec PyProof.Rows L2 Z
theorem wLc_mapA {α : Type} {f : α → T} {l : List α} {wi : WI} {g : WG} {el : WV} {vs : List Nat} {τ τ1 : PSt} {Q : T → Md → PSt → Prop} (F : α → T) (hi : ∀ P : List T → PSt → Prop, P (l.map f) τ1 → wi τ P) (hl : l.length ≤ sizeLine) (hw : wipeP τ1 vs = τ1) (hn : npn τ1 vs)
    (step : ∀ x ∈ l, ∀ R : T → PSt → Prop, R (F x) τ1 → g (f x) τ1 fun τ2 => el τ2 fun y τ4 => npn τ4 vs ∧ R y (wipeP τ4 vs))
    (fin : Q (.lst (l.map F)) .ow τ1) : wLc wi g wYes el vs τ Q := by
  refine wLc_pureA (fun x => some (F x)) hi hl hw hn (fun x hx R hR => ?_) ?_
  · have := step x hx (fun y τ' => R (some y) τ') hR
    simpa only [wYes, if_true] using this
  · have e : l.filterMap (fun t => some (F t)) = l.map F := by rw [List.filterMap_eq_map']
    rw [e]; exact fin
theorem wLc_mapA0 {α : Type} {f : α → T} {l : List α} {wi : WI} {g : WG} {el : WV} {vs : List Nat} {τ : PSt} {Q : T → Md → PSt → Prop} (F : α → T) (hi : ∀ P : List T → PSt → Prop, P (l.map f) τ → wi τ P) (hl : l.length ≤ sizeLine) (hw : wipeP τ vs = τ) (hn : npn τ vs)
    (step : ∀ x ∈ l, ∀ R : T → PSt → Prop, R (F x) τ → g (f x) τ fun τ2 => el τ2 fun y τ4 => npn τ4 vs ∧ R y (wipeP τ4 vs))
    (fin : Q (.lst (l.map F)) .ow τ) : wLc wi g wYes el vs τ Q := wLc_mapA F hi hl hw hn step fin
theorem wLc_pureA0 {α : Type} {f : α → T} {l : List α} {wi : WI} {g : WG} {c : WB} {el : WV} {vs : List Nat} {τ : PSt} {Q : T → Md → PSt → Prop} (F : α → Option T) (hi : ∀ P : List T → PSt → Prop, P (l.map f) τ → wi τ P) (hl : l.length ≤ sizeLine) (hw : wipeP τ vs = τ) (hn : npn τ vs)
    (step : ∀ x ∈ l, ∀ R : Option T → PSt → Prop, R (F x) τ → g (f x) τ fun τ2 => c τ2 fun k τ3 => if k = true then el τ3 fun y τ4 => npn τ4 vs ∧ R (some y) (wipeP τ4 vs) else npn τ3 vs ∧ R none (wipeP τ3 vs))
    (fin : Q (.lst (l.filterMap F)) .ow τ) : wLc wi g c el vs τ Q := wLc_pureA F hi hl hw hn step fin
def cntL (L : List (List Nat)) (k : Nat) : Nat := (L.filter fun s => decide (s.length = k)).length
theorem cnt_row {l : List Tie} {L : List (List Nat)} (hp : L.Perm (allP l)) {m : Nat} (h1 : ∃ s ∈ L, s.length = m) (h2 : ∀ s ∈ L, s.length ≤ m) : Row ((List.range (m + 1)).map (cntL L)) (cM l) := by
  have hc : ∀ k, cntL L k = cM l k := fun k => by
    unfold cntL
    rw [(hp.filter _).length_eq, allP_count]
  refine Row.of (fun k => ?_) (by simp) ?_
  · by_cases hk : k < m + 1
    · rw [List.getD_eq_getElem?_getD, List.getElem?_eq_getElem (by simpa using hk)]
      simp [hc]
    · rw [List.getD_eq_getElem?_getD, List.getElem?_eq_none (by simp; omega)]
      rw [← hc]
      unfold cntL
      have : L.filter (fun s => decide (s.length = k)) = [] := by
        rw [List.filter_eq_nil_iff]
        intro s hs
        have := h2 s hs
        simp; omega
      rw [this]; rfl
  · simp only [List.length_map, List.length_range, Nat.add_sub_cancel]
    rw [← hc]
    obtain ⟨s, hs, e⟩ := h1
    unfold cntL
    have : s ∈ L.filter fun s => decide (s.length = m) := List.mem_filter.mpr ⟨hs, by simpa using e⟩
    have := List.length_pos_of_mem this
    omega
theorem p__law_counts : ∀ ts Pq, ts.length = 1 → s__law_counts ts Pq → w__law_counts (PE0 Pq) (τ0 4 ts) := by
  rintro ts Pq _ ⟨l, L, rfl, hl, hp, h⟩
  have htm := tM_20 hl
  have hL : L.length = tM l := by rw [hp.length_eq, allP_len]
  have hpos := tM_pos l.length l (Nat.le_refl _)
  simp [w__law_counts]
  refine wLc_mapA0 (l := L) (f := pT) (fun s => .int (s.length : Nat)) (fun P hP => ?_) (by rw [sizeLine_eq]; omega) rfl (by simp) (fun s hs R hR => ?_) ?_
  · simp
    exact hP
  · simp [pT] at hR ⊢
    exact hR
  · have e : L.map (fun s => T.int (s.length : Nat)) = (L.map fun s => ((s.length : Nat) : Int)).map T.int := by rw [List.map_map]; rfl
    rw [e]
    simp only [intsT_map]
    refine ⟨by simp; omega, fun m hm hy => ?_⟩
    obtain ⟨s0, hs0, rfl⟩ := List.mem_map.mp hm
    have hr := cnt_row hp ⟨s0, hs0, rfl⟩ fun s hs => by
      have := hy _ (List.mem_map_of_mem hs)
      omega
    have hs0l : s0.length ≤ l.length := by
      have h1 : 0 < cntL L s0.length := List.length_pos_of_mem (List.mem_filter.mpr ⟨hs0, by simp⟩ : s0 ∈ _)
      have hc : cntL L s0.length = cM l s0.length := by
        unfold cntL
        rw [(hp.filter _).length_eq, allP_count]
      by_cases hh : l.length < s0.length
      · rw [hc, cM_big _ _ hh] at h1; omega
      · omega
    simp
    refine wLc_mapA (l := List.range (s0.length + 1)) (f := fun i : Nat => T.int (i : Nat)) (τ1 := [some (.lst (L.map pT), .sh), some (.int (s0.length : Nat), .sh), none, none]) (fun i => .int (cntL L i : Nat)) (fun P hP => ?_) (by rw [sizeLine_eq]; simp; omega) rfl (by simp) (fun i hi R hR => ?_) ?_
    · simp
      exact ⟨by omega, by omega, hP⟩
    · simp
      refine wLc_pureA (l := L) (f := pT) (τ1 := [some (.lst (L.map pT), .sh), some (.int (s0.length : Nat), .sh), none, some (.int (i : Nat), .sh)]) (fun s => if s.length = i then some (.int 1) else none) (fun P hP => ?_) (by rw [sizeLine_eq]; omega) rfl (by simp) (fun s hs R hR => ?_) ?_
      · simp
        exact hP
      · simp [pT]
        by_cases hh : s.length = i
        · rw [if_pos hh] at hR
          simp [hh]
          exact hR
        · rw [if_neg hh] at hR
          rw [if_neg (by omega)]
          exact hR
      · have : (L.filterMap fun s => if s.length = i then some (T.int 1) else none).length = cntL L i := by
          unfold cntL
          clear hr hm hy hs0 e hL hp hs0l h hR
          induction L with
          | nil => rfl
          | cons s L ih =>
            rw [List.filterMap_cons, List.filter_cons]
            by_cases hh : s.length = i
            · simp [hh]; simpa using ih
            · simp [hh]; simpa using ih
        simp [this]
        exact hR
    · have := h _ hr
      unfold rowT natsT at this
      rw [List.map_map] at this
      exact this
end K44

set_option Elab.async false
set_option linter.all false
set_option maxRecDepth 100000
set_option maxHeartbeats 0
namespace K44
open PySem PySem.Spec PyProof.Rows L2 Z
theorem full_len (n : Nat) (l : List Tie) : (fullP n l).length = if n % 2 = 0 then cM l (n / 2) else 0 := by
  unfold fullP
  by_cases h : n % 2 = 0
  · rw [if_pos h, ← allP_count l (n / 2)]
    congr 1
    refine List.filter_congr fun s _ => ?_
    congr 1
    rw [eq_iff_iff]
    omega
  · rw [if_neg h]
    have : (allP l).filter (fun s => decide (2 * s.length = n)) = [] := by
      rw [List.filter_eq_nil_iff]
      intro s hs
      simp; omega
    rw [this]; rfl
theorem natsT_inj {a b : List Nat} : natsT a = natsT b ↔ a = b := by
  rw [natsT_eq, natsT_eq, int_inj]
  exact ⟨nat_inj, fun h => by rw [h]⟩
theorem seq_set {i : Nat} {e : WE} {rest : WS} {P : PEnds} {τ τ1 : PSt} (t : T) (m : Md) (h : ∀ R : T → Md → PSt → Prop, R t m τ1 → e τ R) (h1 : setOk τ1 i) (h2 : rest P (τ1.set i (some (t, m)))) : wSeq (wSet i e) rest P τ := h _ ⟨h1, h2⟩
theorem srtP_len {L : List (List Nat)} : (srtP L).length = L.length := (srtP_perm L).length_eq
theorem cM_tM (l : List Tie) (k : Nat) : cM l k ≤ tM l := by
  rw [← allP_count, ← allP_len]
  exact List.length_filter_le _ _
theorem full_due {n : Nat} {l : List Tie} {due : List Nat} (hr : Row due (cM l)) : (fullP n l).length = if n % 2 = 0 ∧ n / 2 < due.length then due.getD (n / 2) 0 else 0 := by
  rw [full_len]
  by_cases h : n % 2 = 0
  · by_cases h2 : n / 2 < due.length
    · rw [if_pos h, if_pos ⟨h, h2⟩, hr.at_]
    · rw [if_pos h, if_neg (fun q => h2 q.2), hr.out (by omega)]
  · rw [if_neg h, if_neg fun q => h q.1]
theorem p__law_are_told : ∀ ts Pq, ts.length = 2 → s__law_are_told ts Pq → w__law_are_told (PE0 Pq) (τ0 4 ts) := by
  rintro ts Pq _ ⟨n, l, due, rfl, ok, hr, h⟩
  have htm := tM_20 ok.le
  have hfd := full_due (n := n) hr
  have hn1 := ok.n1
  unfold w__law_are_told
  refine seq_set (τ1 := τ0 4 [webT n l, rowT due]) (.int ((fullP n l).length : Nat)) .sh (fun R hR => ?_) (by simp) ?_
  · simp [webT, rowT, CDv]
    simp [webT, rowT] at hR
    by_cases h0 : n % 2 = 0
    · rw [if_pos (by omega)]
      by_cases h2 : n / 2 < due.length
      · rw [if_pos (by omega)]
        have hat : L2.atI (natsT due) ((n / 2 : Nat) : Int) = some (.int (due.getD (n / 2) 0 : Nat)) := by
          refine atI_at ?_
          unfold natsT
          rw [List.getElem?_map, List.getD_eq_getElem?_getD, List.getElem?_eq_getElem h2]; rfl
        have e : ((n : Int) / 2) = ((n / 2 : Nat) : Int) := by omega
        rw [e, hat]
        rw [hfd, if_pos ⟨h0, h2⟩] at hR
        exact hR
      · rw [if_neg (by omega)]
        rw [hfd, if_neg fun q => h2 q.2] at hR
        exact hR
    · rw [if_neg (by omega)]
      rw [hfd, if_neg fun q => h0 q.1] at hR
      exact hR
  · simp
    refine ⟨n, l, rfl, ok, ?_⟩
    simp
    refine ⟨n, l, rfl, ok, fun r hr' => ?_⟩
    obtain rfl := hr'.uniq hr
    have hsz : ∀ t ∈ natsT r, sh 0 t := sh_nats
    have htq : teq (.lst (natsT r)) (rowT r) = true := teq_self (d := 1) (sh_lst sh_nats)
    simp [htq]
    refine ⟨sh_tsh (d := 1) (sh_lst sh_nats), sh_tsh (d := 1) (sh_lst sh_nats), n, l, rfl, ok, ?_⟩
    simp [rowT, intsT_nats, sum_cast, hr.sum]
    refine ⟨n, l, rfl, ok, fun r2 hr2 => ?_⟩
    obtain rfl := hr2.uniq hr
    have hne := List.length_pos_iff.mpr hr.ne
    have e1 : ((r2.length - 1 : Nat) : Int) = (r2.length : Int) - 1 := by omega
    simp [e1]
    refine ⟨n, l, rfl, ok, ?_⟩
    simp [srtP_len]
    have hle : ∀ k, r2.getD k 0 ≤ 1048576 := fun k => by
      rw [hr.at_]
      have := hr.sum
      have h3 : cM l k ≤ tM l := cM_tM l k
      omega
    have hat : ∀ k, k < r2.length → L2.atI (natsT r2) (k : Int) = some (.int (r2.getD k 0 : Nat)) := fun k hk => by
      refine atI_at ?_
      unfold natsT
      rw [List.getElem?_map, List.getD_eq_getElem?_getD, List.getElem?_eq_getElem hk]; rfl
    have hlen : r2.length ≤ 22 := by
      by_cases hh : 22 < r2.length
      · exact absurd (cM_big _ _ (by have := ok.le; omega)) hr.top
      · omega
    refine wLc_pureA0 (l := List.range (r2.length - 1 - 1)) (f := fun k : Nat => T.int ((1 + k : Nat) : Int)) (fun k => none) (fun P hP => ?_) (by rw [sizeLine_eq]; simp; omega) rfl (by simp) (fun k hk R hR => ?_) ?_
    · simp
      refine ⟨⟨by omega, by omega⟩, ?_⟩
      have e3 : (List.range (r2.length - 1 - 1)).map (fun k : Nat => T.int (1 + (k : Int))) = (List.range (r2.length - 1 - 1)).map fun k : Nat => T.int ((1 + k : Nat) : Int) := List.map_congr_left fun k _ => by congr 1
      rw [e3]
      exact hP
    · have hk : k < r2.length - 1 - 1 := by simpa using hk
      have h1 := hat k (by omega)
      have h2 := hat (1 + k) (by omega)
      have h3 := hat (1 + k + 1) (by omega)
      have hlc := cM_lc l k
      rw [← hr.at_ k, ← hr.at_ (k + 1), ← hr.at_ (k + 2)] at hlc
      have a1 := hle k
      have a2 := hle (1 + k)
      have a3 := hle (1 + k + 1)
      have b1 : (1 : Int) + (k : Int) - 1 = (k : Int) := by omega
      have b2 : k + 1 = 1 + k := by omega
      have b3 : k + 2 = 1 + k + 1 := by omega
      rw [b2, b3] at hlc
      have c1 : ((1 + k : Nat) : Int) = 1 + (k : Int) := by omega
      have c2 : ((1 + k + 1 : Nat) : Int) = 1 + (k : Int) + 1 := by omega
      rw [c1] at h2
      rw [c2] at h3
      obtain ⟨x, hx⟩ : ∃ x, x = r2.getD k 0 := ⟨_, rfl⟩
      obtain ⟨y, hy⟩ : ∃ x, x = r2.getD (1 + k) 0 := ⟨_, rfl⟩
      obtain ⟨z, hz⟩ : ∃ x, x = r2.getD (1 + k + 1) 0 := ⟨_, rfl⟩
      rw [← hx] at h1 hlc a1
      rw [← hy] at h2 hlc a2
      rw [← hz] at h3 hlc a3
      simp [b1, h1, h2, h3, CMul]
      have z1 : (x : Int) * (z : Int) ≤ (y : Int) * (y : Int) := by exact_mod_cast hlc
      rw [if_neg (by omega)]
      refine ⟨?_, ?_, hR⟩
      · first | exact .inl ⟨by omega, by omega⟩ | exact .inl (.inl ⟨by omega, by omega⟩)
      · first | exact .inl (.inl ⟨by omega, by omega⟩) | exact .inl ⟨by omega, by omega⟩
    · have e0 : ∀ l : List Nat, l.filterMap (fun _ => (none : Option T)) = [] := fun l => by induction l with
        | nil => rfl
        | cons x l ih => rw [List.filterMap_cons, ih]
      rw [e0]
      exact ⟨sh_tsh (d := 1) (sh_lst fun _ h => by cases h), h⟩
end K44

set_option Elab.async false
set_option linter.all false
set_option maxRecDepth 100000
set_option maxHeartbeats 0
namespace K44
open PySem PySem.Spec PyProof.Rows L2 Z
/-! ### full pairings, from a stack -/
def ltN (a b : Nat) : Bool := decide (a < b)
def srtN (s : List Nat) : List Nat := isort ltN s
theorem swo_ltN : SrtO.Swo ltN := by
  refine ⟨fun a b h => ?_, fun a b c h1 h2 => ?_⟩
  · have := of_decide_eq_true h
    unfold ltN
    simp; omega
  · have := of_decide_eq_false h1
    have := of_decide_eq_false h2
    unfold ltN
    simp; omega
theorem srtN_eq {s r : List Nat} (h : s.Perm r) : srtN s = srtN r :=
  srtd_uniq (fun a _ b _ h1 h2 => by
    have h1 := of_decide_eq_false h1
    have h2 := of_decide_eq_false h2
    omega) ((isort_perm s).trans (h.trans (isort_perm r).symm)) (isort_srtd swo_ltN s) (isort_srtd swo_ltN r)
theorem insN_mem {x y : Nat} {l : List Nat} : y ∈ insN x l ↔ y = x ∨ y ∈ l := by
  rw [(insN_perm x l).mem_iff, List.mem_cons]
theorem insN_asc {x : Nat} : ∀ {l : List Nat}, l.Pairwise (· ≤ ·) → (insN x l).Pairwise (· ≤ ·)
  | [], _ => List.pairwise_singleton ..
  | y :: l, h => by
    have h' := List.pairwise_cons.mp h
    unfold insN
    split
    · refine List.pairwise_cons.mpr ⟨fun z hz => ?_, insN_asc h'.2⟩
      rcases insN_mem.mp hz with rfl | hz
      · omega
      · exact h'.1 z hz
    · refine List.pairwise_cons.mpr ⟨fun z hz => ?_, h⟩
      rcases List.mem_cons.mp hz with rfl | hz
      · omega
      · have := h'.1 z hz
        omega
theorem PL_asc : ∀ (n : Nat) (q : List TI), q.length ≤ n → ∀ s ∈ PL q, s.Pairwise (· ≤ ·)
  | _, [], _, s, hs => by
    rw [PL_nil] at hs
    have : s = [] := by simpa using hs
    subst this
    exact List.Pairwise.nil
  | 0, p :: q, h, _, _ => by simp at h
  | n + 1, p :: q, h, s, hs => by
    have h : q.length ≤ n := by simpa using h
    have ha := awayP_len p q
    rw [PL_cons] at hs
    rcases List.mem_append.mp hs with hs | hs
    · exact PL_asc n q h s hs
    · obtain ⟨r, hr, rfl⟩ := List.mem_map.mp hs
      exact insN_asc (PL_asc n (awayP p q) (by omega) r hr)
theorem srtN_asc {s : List Nat} (h : s.Pairwise (· ≤ ·)) : srtN s = s :=
  srtd_uniq (fun a _ b _ h1 h2 => by
    have h1 := of_decide_eq_false h1
    have h2 := of_decide_eq_false h2
    omega) (isort_perm s) (isort_srtd swo_ltN s) (h.imp fun {a b} h => by
    show ltN b a = false
    unfold ltN
    simp; omega)
def FL (Q : List TI) (left : List Nat) : List (List Nat) := (PL (wthn left Q)).filter fun r => decide (2 * r.length = left.length)
def cont (Q : List TI) (w : List Nat × List Nat) : List (List Nat) := (FL Q w.2).map fun r => srtN (w.1 ++ r)
def mu (Q : List TI) (left : List Nat) : Nat := tM ((wthn left Q).map (·.1))
def kd (w : List Nat × List Nat) (p : TI) : List Nat × List Nat := (w.1 ++ [p.2], outs w.2 p.1)
def isK (w : List Nat × List Nat) (p : TI) : Bool := match w.2 with
  | [] => false
  | x :: _ => tou x p.1 && (w.2.contains p.1.1 && w.2.contains p.1.2)
theorem kids_eq (Q : List TI) (s : List Nat) (x : Nat) (left : List Nat) : Q.filter (isK (s, x :: left)) = holdP x (wthn (x :: left) Q) := by
  unfold holdP wthn
  rw [List.filter_filter]
  rfl
theorem away_outs {x : Nat} {left : List Nat} {Q : List TI} {p : TI} (h : tou x p.1 = true) : awayP p (offP x (wthn (x :: left) Q)) = wthn (outs (x :: left) p.1) Q := by
  unfold awayP offP wthn
  rw [List.filter_filter, List.filter_filter]
  refine List.filter_congr fun u _ => ?_
  rw [Bool.eq_iff_iff]
  unfold outs meets
  simp only [Bool.and_eq_true, Bool.not_eq_true', List.contains_iff_mem, List.mem_filter, Bool.or_eq_false_iff]
  unfold tou at h ⊢
  simp only [Bool.or_eq_false_iff, decide_eq_false_iff_not, Bool.or_eq_true, decide_eq_true_eq] at h ⊢
  constructor
  · rintro ⟨⟨⟨h1, h2⟩, h3, h4⟩, h5, h6⟩
    refine ⟨⟨h5, ?_, ?_⟩, h6, ?_, ?_⟩ <;> omega
  · rintro ⟨⟨h1, h2, h3⟩, h4, h5, h6⟩
    refine ⟨⟨⟨?_, ?_⟩, ?_, ?_⟩, h1, h4⟩ <;> omega
theorem kid_mem {Q : List TI} {x : Nat} {left : List Nat} {p : TI} (h : p ∈ holdP x (wthn (x :: left) Q)) : p ∈ Q ∧ tou x p.1 = true ∧ p.1.1 ∈ x :: left ∧ p.1.2 ∈ x :: left := by
  obtain ⟨h1, h2⟩ := List.mem_filter.mp h
  obtain ⟨h3, h4⟩ := List.mem_filter.mp h1
  rw [Bool.and_eq_true, List.contains_iff_mem, List.contains_iff_mem] at h4
  exact ⟨h3, h2, h4.1, h4.2⟩
theorem fm_congr {α β : Type} {f g : α → List β} : ∀ {l : List α}, (∀ x ∈ l, f x = g x) → l.flatMap f = l.flatMap g
  | [], _ => rfl
  | x :: l, h => by
    rw [List.flatMap_cons, List.flatMap_cons, h x (List.mem_cons_self ..), fm_congr fun y hy => h y (List.mem_cons_of_mem _ hy)]
theorem cont_kids {Q : List TI} (hQ : ∀ p ∈ Q, p.1.1 ≠ p.1.2) {s : List Nat} {x : Nat} {left : List Nat} (hn : (x :: left).Nodup) :
    (cont Q (s, x :: left)).Perm (((Q.filter (isK (s, x :: left))).map (kd (s, x :: left))).flatMap (cont Q)) := by
  rw [kids_eq, List.flatMap_map]
  unfold cont FL
  have h1 := ((PL_at x (wthn (x :: left) Q)).filter fun r => decide (2 * r.length = (x :: left).length)).map fun r => srtN (s ++ r)
  refine h1.trans (List.Perm.of_eq ?_)
  rw [List.filter_append]
  have e1 : (PL (offP x (wthn (x :: left) Q))).filter (fun r => decide (2 * r.length = (x :: left).length)) = [] := by
    rw [List.filter_eq_nil_iff]
    intro r hr
    have hn' := List.nodup_cons.mp hn
    have := PL_half _ _ left (Nat.le_refl _) hn'.2 (fun p hp => by
      obtain ⟨a1, a2⟩ := List.mem_filter.mp hp
      obtain ⟨a3, a4⟩ := List.mem_filter.mp a1
      rw [Bool.and_eq_true, List.contains_iff_mem, List.contains_iff_mem] at a4
      unfold tou at a2
      simp only [Bool.not_eq_true', Bool.or_eq_false_iff, decide_eq_false_iff_not] at a2
      refine ⟨?_, ?_, hQ p a3⟩
      · rcases List.mem_cons.mp a4.1 with h | h
        · exact absurd h a2.1
        · exact h
      · rcases List.mem_cons.mp a4.2 with h | h
        · exact absurd h a2.2
        · exact h) r hr
    rw [List.length_cons]
    simp; omega
  rw [e1, List.nil_append, List.filter_flatMap, List.map_flatMap]
  refine fm_congr fun p hp => ?_
  obtain ⟨k1, k2, k3, k4⟩ := kid_mem hp
  have ho := outs_len hn k3 k4 (hQ p k1)
  rw [away_outs k2, List.filter_map, List.map_map]
  unfold kd
  have e2 : (fun r : List Nat => decide (2 * r.length = (x :: left).length)) ∘ insN p.2 = fun r => decide (2 * r.length = (outs (x :: left) p.1).length) := by
    funext r
    simp only [Function.comp, insN_len]
    congr 1
    rw [eq_iff_iff]
    omega
  rw [e2]
  refine List.map_congr_left fun r _ => ?_
  simp only [Function.comp]
  refine srtN_eq ?_
  rw [List.append_assoc]
  exact List.Perm.append_left _ (insN_perm p.2 r)
theorem mu_kids {Q : List TI} {s : List Nat} {x : Nat} {left : List Nat} : (((Q.filter (isK (s, x :: left))).map (kd (s, x :: left))).map fun w => mu Q w.2).sum + 1 ≤ mu Q (x :: left) := by
  rw [kids_eq, List.map_map]
  unfold mu
  rw [tM_at x (wthn (x :: left) Q)]
  have e : ((holdP x (wthn (x :: left) Q)).map ((fun w : List Nat × List Nat => tM ((wthn w.2 Q).map (·.1))) ∘ kd (s, x :: left))) = (holdP x (wthn (x :: left) Q)).map fun p => tM ((awayP p (offP x (wthn (x :: left) Q))).map (·.1)) := List.map_congr_left fun p hp => by
    obtain ⟨k1, k2, k3, k4⟩ := kid_mem hp
    rw [away_outs k2]
    rfl
  rw [e]
  have := tM_pos _ ((offP x (wthn (x :: left) Q)).map (·.1)) (Nat.le_refl _)
  omega
theorem wthn_all {n : Nat} {Q : List TI} (h : ∀ p ∈ Q, p.1.1 < n ∧ p.1.2 < n) : wthn (List.range n) Q = Q := by
  unfold wthn
  rw [List.filter_eq_self]
  intro p hp
  have := h p hp
  rw [Bool.and_eq_true, List.contains_iff_mem, List.contains_iff_mem, List.mem_range, List.mem_range]
  exact this
theorem cont_top {n : Nat} {l : List Tie} (ok : WebOk n l) : (cont l.zipIdx ([], List.range n)).Perm (fullP n l) := by
  unfold cont FL fullP
  rw [wthn_all (n := n) fun p hp => by
    have := ok.tie p.1 (by
      have h := List.mem_map_of_mem (f := fun p : TI => p.1) hp
      rwa [zi_map] at h)
    omega]
  have e : ((PL l.zipIdx).filter fun r => decide (2 * r.length = (List.range n).length)).map (fun r => srtN ([] ++ r)) = (PL l.zipIdx).filter fun r => decide (2 * r.length = n) := by
    rw [List.length_range]
    conv => rhs; rw [← List.map_id ((PL l.zipIdx).filter fun r => decide (2 * r.length = n))]
    refine List.map_congr_left fun r hr => ?_
    rw [List.nil_append]
    exact srtN_asc (PL_asc _ _ (Nat.le_refl _) r (List.mem_filter.mp hr).1)
  show (((PL l.zipIdx).filter fun r => decide (2 * r.length = (List.range n).length)).map (fun r => srtN ([] ++ r))).Perm _
  rw [e]
  exact (allP_PL l).symm.filter _
theorem cont_nil {Q : List TI} (hs : ∀ p : TI, p ∈ Q → True) (s : List Nat) : cont Q (s, []) = [srtN s] := by
  unfold cont FL
  have e : wthn [] Q = [] := by
    unfold wthn
    rw [List.filter_eq_nil_iff]
    intro p _
    simp
  rw [e, PL_nil]
  simp
theorem sortTs_nats (s : List Nat) : sortTs (natsT s) = natsT (srtN s) := by
  unfold sortTs srtN natsT
  rw [isort_map]
  congr 1
  congr 1
  funext a b
  show HT.lexLt [(a : Int)] [(b : Int)] = _
  unfold ltN
  rw [HT.lexLt_cons, Bool.eq_iff_iff]
  by_cases h : (a : Int) = (b : Int)
  · rw [if_pos h]
    have : HT.lexLt ([] : List Int) [] = false := rfl
    rw [this]
    simp; omega
  · rw [if_neg h]
    simp
theorem okS_nats (s : List Nat) : okS (natsT s) = true := by
  unfold okS
  rw [Bool.or_eq_true]
  refine .inl (List.all_eq_true.mpr fun t ht => ?_)
  obtain ⟨p, _, rfl⟩ := List.mem_map.mp ht
  rfl
def wkT (w : List Nat × List Nat) : T := .tup [pT w.1, pT w.2]
theorem sh_wk {w : List Nat × List Nat} : sh 2 (wkT w) := sh_tup fun t ht => by
  simp at ht
  rcases ht with rfl | rfl
  · exact sh_pT
  · exact sh_pT
theorem tsh_wks {W : List (List Nat × List Nat)} : tsh (.lst (W.map wkT)) = true := sh_tsh (d := 3) (sh_lst fun t ht => by
  obtain ⟨x, _, rfl⟩ := List.mem_map.mp ht
  exact sh_wk)
def musum (Q : List TI) (W : List (List Nat × List Nat)) : Nat := (W.map fun w => mu Q w.2).sum
theorem mus_append {Q : List TI} (A B : List (List Nat × List Nat)) : musum Q (A ++ B) = musum Q A + musum Q B := by
  unfold musum
  rw [List.map_append, List.sum_append]
theorem mus_len {Q : List TI} : ∀ W : List (List Nat × List Nat), W.length ≤ musum Q W
  | [] => Nat.le_refl _
  | w :: W => by
    have h1 : 1 ≤ mu Q w.2 := tM_pos _ _ (Nat.le_refl _)
    have h2 := mus_len (Q := Q) W
    have e : musum Q (w :: W) = mu Q w.2 + musum Q W := rfl
    rw [e, List.length_cons]
    omega
theorem outs_nodup {left : List Nat} {t : Tie} (h : left.Nodup) : (outs left t).Nodup := h.filter _
theorem oIn_tie {neg : Bool} {x : Nat} {t : Tie} {P : T → Md → Prop} : oIn neg [.int (x : Nat), .tup [.int (t.1 : Nat), .int (t.2 : Nat)]] P ↔ P (.bl (neg ^^ tou x t)) .sh := by
  have := oIn_nats (neg := neg) (a := x) (r := [t.1, t.2]) (P := P)
  unfold natsT at this
  simp only [List.map_cons, List.map_nil] at this
  rw [this]
  have e : [t.1, t.2].contains x = tou x t := by
    unfold tou
    rw [Bool.eq_iff_iff]
    simp
    grind
  rw [e]
/-- an item of the stack -/
structure WkOk (n : Nat) (w : List Nat × List Nat) : Prop where
  nd : w.2.Nodup
  len : 2 * w.1.length + w.2.length = n
theorem p_full_pairings_in : ∀ ts Pq, ts.length = 1 → s_full_pairings_in ts Pq → w_full_pairings_in (PE0 Pq) (τ0 10 ts) := by
  rintro ts Pq _ ⟨n, l, rfl, ok, h⟩
  have htm := tM_20 ok.le
  have hn1 := ok.n1
  have hQ : ∀ p ∈ l.zipIdx, p.1.1 ≠ p.1.2 := fun p hp => by
    have := ok.tie p.1 (by
      have h := List.mem_map_of_mem (f := fun p : TI => p.1) hp
      rwa [zi_map] at h)
    omega
  simp [w_full_pairings_in]
  refine ⟨n, l, rfl, ?_⟩
  simp [webT]
  have hr0 : rngTs 0 (n : Int) = natsT (List.range n) := by
    unfold rngTs natsT
    simp
  rw [hr0]
  refine ⟨by unfold RgOk; omega, ?_⟩
  obtain ⟨wb, hwb⟩ : ∃ wb, wb = webT n l := ⟨_, rfl⟩
  obtain ⟨W, hW⟩ : ∃ W : Nat → PSt → Prop, W = fun k τ => ∃ (F : List (List Nat)) (S : List (List Nat × List Nat)) (m1 : Md) (u4 u5 u6 u7 u8 : Option (T × Md)), (m1 = .sh ∨ m1 = .ow) ∧ k = musum l.zipIdx S ∧ F.length + k ≤ 1048576 ∧ (F ++ S.flatMap (cont l.zipIdx)).Perm (fullP n l) ∧ (∀ w ∈ S, WkOk n w) ∧ np u4 ∧ np u5 ∧ np u6 ∧ np u7 ∧ np u8 ∧
      τ = [some (wb, .sh), some (.lst (tiesT l), m1), some (.lst (S.map wkT), .ow), some (.lst (F.map pT), .ow), u4, u5, u6, u7, u8, none] := ⟨_, rfl⟩
  refine wWhile_of W (musum l.zipIdx [([], List.range n)]) ?_ ?_
  · rw [hW]
    refine ⟨[], [([], List.range n)], .ow, none, none, none, none, none, .inr rfl, rfl, ?_, ?_, ?_, by simp, by simp, by simp, by simp, by simp, by rw [hwb]; rfl⟩
    · have e : musum l.zipIdx [([], List.range n)] = tM l := by
        unfold musum mu
        rw [List.map_cons, List.map_nil, List.sum_cons, List.sum_nil, Nat.add_zero]
        show tM ((wthn (List.range n) l.zipIdx).map (·.1)) = tM l
        rw [wthn_all (n := n) fun p hp => by
          have := ok.tie p.1 (by
            have h := List.mem_map_of_mem (f := fun p : TI => p.1) hp
            rwa [zi_map] at h)
          omega, zi_map]
      rw [e]
      simpa using htm
    · simpa using cont_top ok
    · intro w hw
      have : w = ([], List.range n) := by simpa using hw
      subst this
      exact ⟨List.nodup_range, by simp⟩
  · intro k τ p
    rw [hW] at p
    obtain ⟨F, S, m1, u4, u5, u6, u7, u8, hm1, hk, hkb, hp, hS, h4, h5, h6, h7, h8, rfl⟩ := p
    simp
    refine ⟨tsh_wks, ?_⟩
    by_cases he : S = []
    · subst he
      simp
      refine h F ?_
      simpa using hp
    · obtain ⟨S0, w, rfl⟩ : ∃ S0 w, S = S0 ++ [w] := ⟨S.dropLast, S.getLast he, (List.dropLast_concat_getLast he).symm⟩
      have hw := hS w (by simp)
      have hml := mus_len (Q := l.zipIdx) (S0 ++ [w])
      have hsz : 4194304 ≤ sizeLine := by rw [sizeLine_eq]; decide
      rw [List.length_append] at hml
      have e0 : musum l.zipIdx [w] = mu l.zipIdx w.2 := by simp [musum]
      rw [mus_append, e0] at hk hml
      have e1 : ([w] : List (List Nat × List Nat)).length = 1 := rfl
      rw [e1] at hml
      simp
      refine ⟨wkT w, ⟨w.1, w.2, rfl, rfl⟩, ?_⟩
      simp [wkT, h4, h5, pT]
      refine ⟨sh_tsh (d := 1) (sh_tup sh_nats), ?_⟩
      obtain ⟨s, left⟩ := w
      cases left with
      | nil =>
        dsimp only at hk hml ⊢
        rw [if_pos (by rfl)]
        refine ⟨okS_nats s, by omega, musum l.zipIdx S0, ?_, ?_⟩
        · rw [hk]
          have : 1 ≤ mu l.zipIdx ([] : List Nat) := tM_pos _ _ (Nat.le_refl _)
          show musum l.zipIdx S0 < musum l.zipIdx S0 + mu l.zipIdx []
          omega
        · rw [hW]
          refine ⟨F ++ [srtN s], S0, m1, some (.tup (natsT s), .sh), some (.tup (natsT []), .sh), u6, u7, u8, hm1, rfl, ?_, ?_, fun v hv => hS v (List.mem_append_left _ hv), np_sh, np_sh, h6, h7, h8, by simp [sortTs_nats, pT]⟩
          · have : 1 ≤ mu l.zipIdx ([] : List Nat) := tM_pos _ _ (Nat.le_refl _)
            have hk' : k = musum l.zipIdx S0 + mu l.zipIdx [] := hk
            rw [List.length_append]
            have : ([srtN s] : List (List Nat)).length = 1 := rfl
            omega
          · refine List.Perm.trans ?_ hp
            have e5 : [(s, ([] : List Nat))].flatMap (cont l.zipIdx) = [srtN s] := by
              rw [List.flatMap_cons, List.flatMap_nil, List.append_nil, cont_nil fun _ _ => trivial]
            rw [List.flatMap_append, e5, List.append_assoc]
            exact List.Perm.append_left _ List.perm_append_comm
      | cons x left =>
        dsimp only at hk hml ⊢
        rw [if_neg (by simp [natsT])]
        obtain ⟨w, hwd⟩ : ∃ w, w = (s, x :: left) := ⟨_, rfl⟩
        obtain ⟨J, hJ⟩ : ∃ J : Nat → PSt → Prop, J = fun i τ => ∃ (u6 u7 u8 : Option (T × Md)), np u6 ∧ np u7 ∧ np u8 ∧
          τ = [some (wb, .sh), some (.lst (tiesT l), .sh), some (.lst ((S0 ++ ((l.zipIdx.take i).filter (isK w)).map (kd w)).map wkT), .ow), some (.lst (F.map pT), .ow), some (.tup (natsT s), .sh), some (.tup (natsT (x :: left)), .sh), u6, u7, u8, none] := ⟨_, rfl⟩
        refine wFor_map (l := l.zipIdx) (f := fun p : TI => T.tup [.int (p.2 : Nat), tieT p.1]) (τ1 := [some (wb, .sh), some (.lst (tiesT l), .sh), some (.lst (S0.map wkT), .ow), some (.lst (F.map pT), .ow), some (.tup (natsT s), .sh), some (.tup (natsT (x :: left)), .sh), u6, u7, u8, none]) (fun Q hQ => ?_) J ?_ ?_ ?_
        · have := enumTs_map (f := tieT) l
          rcases hm1 with rfl | rfl <;> simp
          all_goals
            unfold tiesT at hQ ⊢
            rw [this]
            exact hQ
        · rw [hJ]
          exact ⟨u6, u7, u8, h6, h7, h8, by simp⟩
        · intro i p τ e q
          rw [hJ] at q
          obtain ⟨u6, u7, u8, h6, h7, h8, rfl⟩ := q
          have hiL : i < l.length := by
            have := (List.getElem?_eq_some_iff.mp e).1
            simpa using this
          have hat0 : L2.atI (natsT (x :: left)) 0 = some (.int (x : Nat)) := atI_at (k := 0) rfl
          have hsl : 2 * s.length + (left.length + 1) = n := by
            have := hw.len
            exact this
          have htk : l.zipIdx.take (i + 1) = l.zipIdx.take i ++ [p] := take_succ_get e
          have hfl : ((l.zipIdx.take i).filter (isK w)).length ≤ i := Nat.le_trans (List.length_filter_le ..) (by simp; omega)
          have hik : isK w p = (tou x p.1 && ((x :: left).contains p.1.1 && (x :: left).contains p.1.2)) := by rw [hwd]; rfl
          have hJn : isK w p = false → J (i + 1) [some (wb, .sh), some (.lst (tiesT l), .sh), some (.lst (S0.map wkT ++ ((l.zipIdx.take i).filter (isK w)).map (wkT ∘ kd w)), .ow), some (.lst (F.map pT), .ow), some (.tup (natsT s), .sh), some (.tup (natsT (x :: left)), .sh), some (.int (p.2 : Nat), .sh), some (.int (p.1.1 : Nat), .sh), some (.int (p.1.2 : Nat), .sh), none] := fun hf => by
            rw [hJ]
            refine ⟨some (.int (p.2 : Nat), .sh), some (.int (p.1.1 : Nat), .sh), some (.int (p.1.2 : Nat), .sh), np_sh, np_sh, np_sh, ?_⟩
            rw [htk, List.filter_append, List.filter_cons, hf]
            simp
          simp [h6, h7, h8, tieT, hat0, oIn_tie, oIn_nats, -oIn, -List.contains_eq_mem]
          have hcc : ∀ y, (x :: left).contains y = true ↔ (y = x ∨ left.contains y = true) := fun y => by
            rw [List.contains_iff_mem, List.contains_iff_mem, List.mem_cons]
          by_cases c1 : tou x p.1 = true
          · rw [if_pos c1]
            by_cases c2 : (x :: left).contains p.1.1 = true
            · rw [if_pos ((hcc _).mp c2)]
              by_cases c3 : (x :: left).contains p.1.2 = true
              · rw [if_pos ((hcc _).mp c3)]
                refine ⟨by omega, ?_⟩
                refine wLc_pureA0 (l := x :: left) (f := fun y : Nat => T.int (y : Nat)) (fun y => if tou y p.1 = true then none else some (.int (y : Nat))) (fun P hP => ?_) (by simp; omega) rfl (by simp) (fun y hy R hR => ?_) ?_
                · simp
                  exact hP
                · simp [oIn_tie, -oIn]
                  by_cases c4 : tou y p.1 = true
                  · simp [c4] at hR ⊢
                    exact hR
                  · simp [c4] at hR ⊢
                    exact hR
                · have e9 : (x :: left).filterMap (fun y => if tou y p.1 = true then none else some (T.int (y : Nat))) = natsT (outs (x :: left) p.1) := by
                    unfold outs natsT
                    generalize x :: left = ys
                    induction ys with
                    | nil => rfl
                    | cons y ys ih =>
                      rw [List.filterMap_cons, List.filter_cons, ih]
                      cases tou y p.1 <;> rfl
                  rw [e9]
                  simp
                  have hll := ok.le
                  refine ⟨by omega, ?_⟩
                  rw [hJ]
                  refine ⟨some (.int (p.2 : Nat), .sh), some (.int (p.1.1 : Nat), .sh), some (.int (p.1.2 : Nat), .sh), np_sh, np_sh, np_sh, ?_⟩
                  have ht : isK w p = true := by rw [hik, c1, c2, c3]; rfl
                  rw [htk, List.filter_append, List.filter_cons, ht]
                  simp [wkT, kd, pT, hwd, natsT]
              · rw [if_neg fun q => c3 ((hcc _).mpr q)]
                refine hJn ?_
                rw [hik, Bool.eq_false_iff.mpr c3, Bool.and_false, Bool.and_false]
            · rw [if_neg fun q => c2 ((hcc _).mpr q)]
              refine hJn ?_
              rw [hik, Bool.eq_false_iff.mpr c2, Bool.false_and, Bool.and_false]
          · rw [if_neg c1]
            refine hJn ?_
            rw [hik, Bool.eq_false_iff.mpr c1, Bool.false_and]
        · intro τ p
          rw [hJ] at p
          obtain ⟨u6, u7, u8, h6, h7, h8, rfl⟩ := p
          rw [List.take_length]
          have hck := cont_kids (s := s) hQ hw.nd
          have hmk := mu_kids (Q := l.zipIdx) (s := s) (x := x) (left := left)
          rw [← hwd] at hck hmk
          have hmk' : musum l.zipIdx ((l.zipIdx.filter (isK w)).map (kd w)) + 1 ≤ mu l.zipIdx (x :: left) := hmk
          refine ⟨musum l.zipIdx (S0 ++ (l.zipIdx.filter (isK w)).map (kd w)), ?_, ?_⟩
          · rw [mus_append]
            omega
          · rw [hW]
            refine ⟨F, S0 ++ (l.zipIdx.filter (isK w)).map (kd w), .sh, some (.tup (natsT s), .sh), some (.tup (natsT (x :: left)), .sh), u6, u7, u8, .inl rfl, rfl, ?_, ?_, ?_, np_sh, np_sh, h6, h7, h8, rfl⟩
            · rw [mus_append]
              omega
            · refine List.Perm.trans ?_ hp
              refine List.Perm.append_left _ ?_
              rw [List.flatMap_append, List.flatMap_append]
              refine List.Perm.append_left _ ?_
              have e5 : [w].flatMap (cont l.zipIdx) = cont l.zipIdx w := by simp
              rw [← hwd, e5]
              exact hck.symm
            · intro v hv
              rcases List.mem_append.mp hv with hv | hv
              · exact hS v (List.mem_append_left _ hv)
              · obtain ⟨p, hp, rfl⟩ := List.mem_map.mp hv
                rw [hwd, kids_eq] at hp
                obtain ⟨k1, k2, k3, k4⟩ := kid_mem hp
                have ho := outs_len hw.nd k3 k4 (hQ p k1)
                have hl := hw.len
                rw [hwd]
                refine ⟨outs_nodup hw.nd, ?_⟩
                show 2 * (s ++ [p.2]).length + (outs (x :: left) p.1).length = n
                have hl2 : 2 * s.length + (x :: left).length = n := hl
                rw [List.length_append]
                have e8 : ([p.2] : List Nat).length = 1 := rfl
                have ho' : (outs (x :: left) p.1).length + 2 = (x :: left).length := ho
                rw [e8]
                omega
end K44

set_option Elab.async false
set_option linter.all false
set_option maxRecDepth 100000
set_option maxHeartbeats 0
namespace K44
open PySem PySem.Spec PyProof.Rows L2 Z
def kn (x : Nat) : Key := .inl (x : Int)
def setT (D : List Nat) (us : List T) : T := .dic (D.map kn) us
theorem kn_inj {a b : Nat} (h : kn a = kn b) : a = b := by
  have h : (a : Int) = (b : Int) := Sum.inl.inj h
  omega
theorem hasK_kn {D : List Nat} {x : Nat} : hasK (D.map kn) (kn x) = D.contains x := by
  rw [Bool.eq_iff_iff, List.contains_iff_mem]
  unfold hasK
  constructor
  · intro h
    simp at h
    obtain ⟨y, hy, e⟩ := h
    rwa [← kn_inj e]
  · intro h
    simp
    exact ⟨x, h, rfl⟩
theorem wFor_2 {wi : WI} {g : WG} {b : WS} {P : PEnds} {τ τ1 : PSt} {t0 t1 : T} (A : PSt → Prop) (hi : ∀ Q : List T → PSt → Prop, Q [t0, t1] τ1 → wi τ Q)
    (h : g t0 τ1 fun τ2 => b { P with nx := A, ct := A, bk := P.nx } τ2) (h2 : ∀ τ3, A τ3 → g t1 τ3 fun τ4 => b { P with nx := P.nx, ct := P.nx, bk := P.nx } τ4) : wFor wi g b P τ := by
  refine wFor_of hi (fun i τ => match i with | 0 => τ = τ1 | 1 => A τ | _ => P.nx τ) rfl (fun i t τ e p => ?_) fun τ p => p
  match i, e, p with
  | 0, e, p => cases e; subst p; exact h
  | 1, e, p => cases e; exact h2 τ p
  | i + 2, e, p => simp at e
structure RI (n : Nat) (l : List Tie) (x : Nat) (D W : List Nat) : Prop where
  nd : D.Nodup
  lt : ∀ y ∈ D, y < n
  hx : x ∈ D
  sub : ∀ y ∈ W, y ∈ D
  min : ∀ C : Nat → Prop, Clo l C → C x → ∀ y ∈ D, C y
  cl : ∀ y ∈ D, y ∈ W ∨ ∀ t ∈ l, (t.1 = y → t.2 ∈ D) ∧ (t.2 = y → t.1 ∈ D)
structure Mid (n : Nat) (l : List Tie) (x a : Nat) (D W0 : List Nat) (done : List (Nat × Nat)) (D' W' : List Nat) : Prop where
  nd : D'.Nodup
  lt : ∀ y ∈ D', y < n
  hx : x ∈ D'
  ha : a ∈ D'
  sub : ∀ y ∈ W', y ∈ D'
  min : ∀ C : Nat → Prop, Clo l C → C x → ∀ y ∈ D', C y
  old : ∀ y ∈ D, y ∈ D'
  oldw : ∀ y ∈ W0, y ∈ W'
  new : ∀ y ∈ D', y ∈ D ∨ y ∈ W'
  len : D'.length + W0.length = D.length + W'.length
  mon : W0.length ≤ W'.length
  dn : ∀ p ∈ done, p.1 = a → p.2 ∈ D'
theorem Mid.stp {n : Nat} {l : List Tie} {x a : Nat} {D W0 : List Nat} {done : List (Nat × Nat)} {D' W' : List Nat} (M : Mid n l x a D W0 done D' W') {u v : Nat} (hv : v < n) (hc : ∀ C : Nat → Prop, Clo l C → (C u → C v)) :
    (u = a ∧ v ∉ D' → Mid n l x a D W0 (done ++ [(u, v)]) (D' ++ [v]) (W' ++ [v])) ∧ (¬ (u = a ∧ v ∉ D') → Mid n l x a D W0 (done ++ [(u, v)]) D' W') := by
  refine ⟨fun h => ?_, fun h => ?_⟩
  · obtain ⟨rfl, hn⟩ := h
    refine ⟨?_, ?_, List.mem_append_left _ M.hx, List.mem_append_left _ M.ha, ?_, ?_, fun y hy => List.mem_append_left _ (M.old y hy), fun y hy => List.mem_append_left _ (M.oldw y hy), ?_, ?_, by have := M.mon; rw [List.length_append]; omega, ?_⟩
    · exact List.nodup_append.mpr ⟨M.nd, by simp, fun y hy z hz e => by
        have : z = v := by simpa using hz
        subst this; subst e; exact hn hy⟩
    · intro y hy
      rcases List.mem_append.mp hy with hy | hy
      · exact M.lt y hy
      · have : y = v := by simpa using hy
        omega
    · intro y hy
      rcases List.mem_append.mp hy with hy | hy
      · exact List.mem_append_left _ (M.sub y hy)
      · exact List.mem_append_right _ hy
    · intro C hC cx y hy
      rcases List.mem_append.mp hy with hy | hy
      · exact M.min C hC cx y hy
      · have : y = v := by simpa using hy
        subst this
        exact hc C hC (M.min C hC cx u M.ha)
    · intro y hy
      rcases List.mem_append.mp hy with hy | hy
      · rcases M.new y hy with h | h
        · exact .inl h
        · exact .inr (List.mem_append_left _ h)
      · exact .inr (List.mem_append_right _ hy)
    · have := M.len
      rw [List.length_append, List.length_append]
      have e : ([v] : List Nat).length = 1 := rfl
      omega
    · intro p hp e
      rcases List.mem_append.mp hp with hp | hp
      · exact List.mem_append_left _ (M.dn p hp e)
      · have : p = (u, v) := by simpa using hp
        subst this
        exact List.mem_append_right _ (List.mem_cons_self ..)
  · refine { M with dn := fun p hp e => ?_ }
    rcases List.mem_append.mp hp with hp | hp
    · exact M.dn p hp e
    · have : p = (u, v) := by simpa using hp
      subst this
      have e : u = a := e
      by_cases hh : v ∈ D'
      · exact hh
      · exact absurd ⟨e, hh⟩ h
theorem RI.mid {n : Nat} {l : List Tie} {x a : Nat} {D W0 : List Nat} (I : RI n l x D (W0 ++ [a])) : Mid n l x a D W0 [] D W0 :=
  ⟨I.nd, I.lt, I.hx, I.sub a (by simp), fun y hy => I.sub y (List.mem_append_left _ hy), I.min, fun _ h => h, fun _ h => h, fun _ h => .inl h, rfl, Nat.le_refl _, fun _ h => (List.not_mem_nil h).elim⟩
theorem Mid.ri {n : Nat} {l : List Tie} {x a : Nat} {D W0 D' W' : List Nat} (I : RI n l x D (W0 ++ [a])) {done : List (Nat × Nat)} (M : Mid n l x a D W0 done D' W') (hd : ∀ t ∈ l, (t.1, t.2) ∈ done ∧ (t.2, t.1) ∈ done) : RI n l x D' W' := by
  refine ⟨M.nd, M.lt, M.hx, M.sub, M.min, fun y hy => ?_⟩
  rcases M.new y hy with h | h
  · rcases I.cl y h with h | h
    · rcases List.mem_append.mp h with h | h
      · exact .inl (M.oldw y h)
      · have : y = a := by simpa using h
        subst this
        refine .inr fun t ht => ?_
        obtain ⟨d1, d2⟩ := hd t ht
        exact ⟨M.dn _ d1, M.dn _ d2⟩
    · exact .inr fun t ht => ⟨fun e => M.old _ ((h t ht).1 e), fun e => M.old _ ((h t ht).2 e)⟩
  · exact .inl h
theorem srtN_perm (s : List Nat) : (srtN s).Perm s := isort_perm s
theorem srtN_lt {s : List Nat} (h : s.Nodup) : AscN (srtN s) := by
  have h1 : (srtN s).Pairwise fun a b => ltN b a = false := isort_srtd swo_ltN s
  have h2 : (srtN s).Nodup := (srtN_perm s).nodup_iff.mpr h
  exact (h1.and h2).imp fun {a b} h => by
    have := of_decide_eq_false h.1
    have := h.2
    omega
theorem RI.fin {n : Nat} {l : List Tie} {x : Nat} {D : List Nat} (I : RI n l x D []) : Clo l fun y => y ∈ D := fun t ht => by
  refine ⟨fun h => ?_, fun h => ?_⟩
  · rcases I.cl _ h with h' | h'
    · cases h'
    · exact (h' t ht).1 rfl
  · rcases I.cl _ h with h' | h'
    · cases h'
    · exact (h' t ht).2 rfl
theorem srcT_set (D : List Nat) : (D.map kn).map kT = natsT D := by
  unfold natsT
  rw [List.map_map]; rfl
theorem asc_len {n : Nat} : ∀ (R : List Nat) (b : Nat), AscN R → (∀ y ∈ R, b ≤ y ∧ y < n) → b ≤ n → b + R.length ≤ n
  | [], b, _, _, h => h
  | y :: R, b, h, hb, hn => by
    have h' := List.pairwise_cons.mp h
    have hy := hb y (List.mem_cons_self ..)
    have := asc_len R (y + 1) h'.2 (fun z hz => ⟨h'.1 z hz, (hb z (List.mem_cons_of_mem _ hz)).2⟩) (by omega)
    rw [List.length_cons]
    omega
theorem nd_len {n : Nat} {D : List Nat} (h : D.Nodup) (hb : ∀ y ∈ D, y < n) : D.length ≤ n := by
  have := asc_len (n := n) (srtN D) 0 (srtN_lt h) (fun y hy => ⟨Nat.zero_le _, hb y ((srtN_perm D).mem_iff.mp hy)⟩) (Nat.zero_le _)
  rw [(srtN_perm D).length_eq] at this
  omega
theorem p_reached_from : ∀ ts Pq, ts.length = 3 → s_reached_from ts Pq → w_reached_from (PE0 Pq) (τ0 10 ts) := by
  rintro ts Pq _ ⟨n, l, x, rfl, hn, hl, hx, ht, h⟩
  simp [w_reached_from]
  obtain ⟨W, hW⟩ : ∃ W : Nat → PSt → Prop, W = fun k τ => ∃ (D S : List Nat) (us : List T) (u5 u6 u7 u8 u9 : Option (T × Md)), RI n l x D S ∧ k + 2 * D.length = 2 * n + S.length ∧ k ≤ 20 ∧ np u5 ∧ np u6 ∧ np u7 ∧ np u8 ∧ np u9 ∧
      τ = [some (.int (n : Nat), .sh), some (.tup (tiesT l), .sh), some (.int (x : Nat), .sh), some (setT D us, .ow), some (.lst (natsT S), .ow), u5, u6, u7, u8, u9] := ⟨_, rfl⟩
  refine wWhile_of W (2 * n - 1) ?_ ?_
  · rw [hW]
    refine ⟨[x], [x], [.bl true], none, none, none, none, none, ⟨by simp, fun y hy => ?_, by simp, fun y hy => hy, fun C _ hC y hy => ?_, fun y hy => .inl hy⟩, by simp; omega, by omega, by simp, by simp, by simp, by simp, by simp, rfl⟩
    · have : y = x := by simpa using hy
      omega
    · have : y = x := by simpa using hy
      subst this; exact hC
  · intro k τ p
    rw [hW] at p
    obtain ⟨D, S, us, u5, u6, u7, u8, u9, I, hk, hkb, h5, h6, h7, h8, h9, rfl⟩ := p
    simp
    refine ⟨sh_tsh (d := 1) (sh_lst sh_nats), ?_⟩
    by_cases he : S = []
    · subst he
      have e1 : D.map (kT ∘ kn) = natsT D := by rw [← List.map_map, srcT_set]
      have e0 : natsT [] = [] := rfl
      simp [setT, e0, e1, sortTs_nats]
      refine ⟨okS_nats D, h (srtN D) (srtN_lt I.nd) ((srtN_perm D).mem_iff.mpr I.hx) (fun t ht => ?_) fun C hC cx y hy => I.min C hC cx y ((srtN_perm D).mem_iff.mp hy)⟩
      have := I.fin t ht
      simpa [(srtN_perm D).mem_iff] using this
    · obtain ⟨S0, a, rfl⟩ : ∃ S0 w, S = S0 ++ [w] := ⟨S.dropLast, S.getLast he, (List.dropLast_concat_getLast he).symm⟩
      rw [if_neg (by simp [natsT])]
      refine ⟨.int (a : Nat), by simp [natsT], h5, ?_⟩
      have e2 : (natsT (S0 ++ [a])).dropLast = natsT S0 := by simp [natsT]
      rw [e2]
      obtain ⟨J, hJ⟩ : ∃ J : Nat → PSt → Prop, J = fun i τ => ∃ (D' S' : List Nat) (us : List T) (u6 u7 u8 u9 : Option (T × Md)), Mid n l x a D S0 ((l.take i).flatMap fun t => [(t.1, t.2), (t.2, t.1)]) D' S' ∧ np u6 ∧ np u7 ∧ np u8 ∧ np u9 ∧
        τ = [some (.int (n : Nat), .sh), some (.tup (tiesT l), .sh), some (.int (x : Nat), .sh), some (setT D' us, .ow), some (.lst (natsT S'), .ow), some (.int (a : Nat), .sh), u6, u7, u8, u9] := ⟨_, rfl⟩
      refine wFor_map (l := l) (f := tieT) (τ1 := [some (.int (n : Nat), .sh), some (.tup (tiesT l), .sh), some (.int (x : Nat), .sh), some (setT D us, .ow), some (.lst (natsT S0), .ow), some (.int (a : Nat), .sh), u6, u7, u8, u9]) (fun Q hQ => ?_) J ?_ ?_ ?_
      · simp
        exact hQ
      · rw [hJ]
        exact ⟨D, S0, us, u6, u7, u8, u9, I.mid, h6, h7, h8, h9, rfl⟩
      · intro i t τ e q
        rw [hJ] at q
        obtain ⟨D', S', us, u6, u7, u8, u9, M, h6, h7, h8, h9, rfl⟩ := q
        have htl : t ∈ l := List.mem_of_getElem? e
        have hlt := ht t htl
        have htk : (l.take (i + 1)).flatMap (fun t : Tie => [(t.1, t.2), (t.2, t.1)]) = ((l.take i).flatMap (fun t : Tie => [(t.1, t.2), (t.2, t.1)]) ++ [(t.1, t.2)]) ++ [(t.2, t.1)] := by
          rw [take_succ_get e, List.flatMap_append]; simp
        simp [tieT, h6, h7]
        obtain ⟨Pn, hPn⟩ : ∃ Pn, Pn = J (i + 1) := ⟨_, rfl⟩
        rw [← hPn]
        obtain ⟨A, hA⟩ : ∃ A : PSt → Prop, A = fun τ => ∃ (D' S' : List Nat) (us : List T) (u8 u9 : Option (T × Md)), Mid n l x a D S0 ((l.take i).flatMap (fun t : Tie => [(t.1, t.2), (t.2, t.1)]) ++ [(t.1, t.2)]) D' S' ∧ np u8 ∧ np u9 ∧
          τ = [some (.int (n : Nat), .sh), some (.tup (tiesT l), .sh), some (.int (x : Nat), .sh), some (setT D' us, .ow), some (.lst (natsT S'), .ow), some (.int (a : Nat), .sh), some (.int (t.1 : Nat), .sh), some (.int (t.2 : Nat), .sh), u8, u9] := ⟨_, rfl⟩
        have hsz : 4194304 ≤ sizeLine := by rw [sizeLine_eq]; decide
        refine wFor_2 A (t0 := .tup [.int (t.1 : Nat), .int (t.2 : Nat)]) (t1 := .tup [.int (t.2 : Nat), .int (t.1 : Nat)]) (τ1 := [some (.int (n : Nat), .sh), some (.tup (tiesT l), .sh), some (.int (x : Nat), .sh), some (setT D' us, .ow), some (.lst (natsT S'), .ow), some (.int (a : Nat), .sh), some (.int (t.1 : Nat), .sh), some (.int (t.2 : Nat), .sh), u8, u9]) (fun Q hQ => ?_) ?_ ?_
        · simp
          exact hQ
        · simp [h8, h9, setT]
          have st := M.stp (u := t.1) (v := t.2) hlt.2 (fun C hC h => (hC t htl).mp h)
          have hdl := nd_len M.nd M.lt
          have hdl0 := nd_len I.nd I.lt
          have hml := M.len
          have hkk := hk
          rw [List.length_append] at hkk
          have e3 : ([a] : List Nat).length = 1 := rfl
          rw [e3] at hkk
          have hK : hasK (D'.map kn) (Sum.inl ((t.2 : Nat) : Int)) = D'.contains t.2 := hasK_kn
          have hpk : ¬ t.2 ∈ D' → putKs (D'.map kn) (Sum.inl ((t.2 : Nat) : Int)) = (D' ++ [t.2]).map kn := fun hh => by
            unfold putKs
            rw [if_neg (by rw [hK, List.contains_iff_mem]; exact hh)]
            simp [kn]
          by_cases c1 : t.1 = a
          · rw [if_pos (by omega)]
            by_cases c2 : t.2 ∈ D'
            · rw [if_pos (by rw [hK, List.contains_iff_mem]; exact c2)]
              rw [hA]; exact ⟨D', S', us, some (.int (t.1 : Nat), .sh), some (.int (t.2 : Nat), .sh), st.2 fun h => h.2 c2, np_sh, np_sh, rfl⟩
            · rw [if_neg (by rw [hK, List.contains_iff_mem]; exact c2)]
              refine ⟨by omega, by omega, ?_⟩
              rw [hpk c2]
              rw [hA]; exact ⟨D' ++ [t.2], S' ++ [t.2], _, some (.int (t.1 : Nat), .sh), some (.int (t.2 : Nat), .sh), st.1 ⟨c1, c2⟩, np_sh, np_sh, by simp [setT, natsT]; rfl⟩
          · rw [if_neg (by omega)]
            rw [hA]; exact ⟨D', S', us, some (.int (t.1 : Nat), .sh), some (.int (t.2 : Nat), .sh), st.2 fun h => c1 h.1, np_sh, np_sh, rfl⟩
        · intro τ hτ
          rw [hA] at hτ
          obtain ⟨D', S', us, u8, u9, M, h8, h9, rfl⟩ := hτ
          simp [h8, h9, setT]
          have st := M.stp (u := t.2) (v := t.1) hlt.1 (fun C hC h => (hC t htl).mpr h)
          have hdl := nd_len M.nd M.lt
          have hdl0 := nd_len I.nd I.lt
          have hml := M.len
          have hkk := hk
          rw [List.length_append] at hkk
          have e3 : ([a] : List Nat).length = 1 := rfl
          rw [e3] at hkk
          have hK : hasK (D'.map kn) (Sum.inl ((t.1 : Nat) : Int)) = D'.contains t.1 := hasK_kn
          have hpk : ¬ t.1 ∈ D' → putKs (D'.map kn) (Sum.inl ((t.1 : Nat) : Int)) = (D' ++ [t.1]).map kn := fun hh => by
            unfold putKs
            rw [if_neg (by rw [hK, List.contains_iff_mem]; exact hh)]
            simp [kn]
          by_cases c1 : t.2 = a
          · rw [if_pos (by omega)]
            by_cases c2 : t.1 ∈ D'
            · rw [if_pos (by rw [hK, List.contains_iff_mem]; exact c2)]
              rw [hPn, hJ]; dsimp only; rw [htk]; exact ⟨D', S', us, some (.int (t.1 : Nat), .sh), some (.int (t.2 : Nat), .sh), some (.int (t.2 : Nat), .sh), some (.int (t.1 : Nat), .sh), st.2 fun h => h.2 c2, np_sh, np_sh, np_sh, np_sh, rfl⟩
            · rw [if_neg (by rw [hK, List.contains_iff_mem]; exact c2)]
              refine ⟨by omega, by omega, ?_⟩
              rw [hpk c2]
              rw [hPn, hJ]; dsimp only; rw [htk]; exact ⟨D' ++ [t.1], S' ++ [t.1], _, some (.int (t.1 : Nat), .sh), some (.int (t.2 : Nat), .sh), some (.int (t.2 : Nat), .sh), some (.int (t.1 : Nat), .sh), st.1 ⟨c1, c2⟩, np_sh, np_sh, np_sh, np_sh, by simp [setT, natsT]; rfl⟩
          · rw [if_neg (by omega)]
            rw [hPn, hJ]; dsimp only; rw [htk]; exact ⟨D', S', us, some (.int (t.1 : Nat), .sh), some (.int (t.2 : Nat), .sh), some (.int (t.2 : Nat), .sh), some (.int (t.1 : Nat), .sh), st.2 fun h => c1 h.1, np_sh, np_sh, np_sh, np_sh, rfl⟩
      · intro τ p
        rw [hJ] at p
        obtain ⟨D', S', us, u6, u7, u8, u9, M, h6, h7, h8, h9, rfl⟩ := p
        rw [List.take_length] at M
        have hlen := M.len
        have hlt : D'.length ≤ n :=
           nd_len M.nd M.lt
        have hmon := M.mon
        rw [List.length_append] at hk
        have e3 : ([a] : List Nat).length = 1 := rfl
        rw [e3] at hk
        refine ⟨2 * n + S'.length - 2 * D'.length, by omega, ?_⟩
        rw [hW]
        refine ⟨D', S', us, some (.int (a : Nat), .sh), u6, u7, u8, u9, M.ri I fun t ht => ?_, by omega, by omega, np_sh, h6, h7, h8, h9, rfl⟩
        exact ⟨List.mem_flatMap.mpr ⟨t, ht, by simp⟩, List.mem_flatMap.mpr ⟨t, ht, by simp⟩⟩
end K44

set_option Elab.async false
set_option linter.all false
set_option maxRecDepth 100000
set_option maxHeartbeats 0
namespace K44
open PySem PySem.Spec PyProof.Rows L2 Z
theorem putKs_new {D : List Nat} {x : Nat} (h : x ∉ D) : putKs (D.map kn) (kn x) = (D ++ [x]).map kn := by
  unfold putKs
  rw [if_neg (by rw [hasK_kn, List.contains_iff_mem]; exact h)]
  simp
theorem putTs_new {D : List Nat} {us : List T} {x : Nat} {t : T} (h : x ∉ D) : putTs (D.map kn) us (kn x) t = us ++ [t] := by
  unfold putTs
  rw [if_neg (by rw [hasK_kn, List.contains_iff_mem]; exact h)]
theorem mergKs_new : ∀ (R D : List Nat) (us : List T), R.Nodup → (∀ y ∈ R, y ∉ D) → (mergKs (D.map kn) us (R.map kn) (R.map fun _ => T.bl true)).1 = (D ++ R).map kn
  | [], D, us, _, _ => by simp [mergKs]
  | x :: R, D, us, hn, hd => by
    have hn' := List.nodup_cons.mp hn
    have hx := hd x (List.mem_cons_self ..)
    show (mergKs (putKs (D.map kn) (kn x)) (putTs (D.map kn) us (kn x) (.bl true)) (R.map kn) (R.map fun _ => T.bl true)).1 = _
    rw [putKs_new hx, mergKs_new R (D ++ [x]) _ hn'.2 fun y hy h => by
      rcases List.mem_append.mp h with h | h
      · exact hd y (List.mem_cons_of_mem _ hy) h
      · have : y = x := by simpa using h
        subst this
        exact hn'.1 hy]
    simp
theorem AscN.nd {R : List Nat} (h : AscN R) : R.Nodup := h.imp fun {a b} h => by omega
structure Pin (n : Nat) (l : List Tie) (i : Nat) (Ls : List (List Nat)) (D : List Nat) : Prop where
  one : ∀ R ∈ Ls, AscN R ∧ (∀ y ∈ R, y < n) ∧ R ≠ [] ∧ Clo l (fun y => y ∈ R)
  dis : Ls.Pairwise fun R S => ∀ y ∈ R, y ∉ S
  mem : ∀ y, y ∈ D ↔ ∃ R ∈ Ls, y ∈ R
  cov : ∀ y, y < i → y ∈ D
  len : Ls.length ≤ i
  nd : D.Nodup
theorem Pin.lt {n : Nat} {l : List Tie} {i : Nat} {Ls : List (List Nat)} {D : List Nat} (I : Pin n l i Ls D) : ∀ y ∈ D, y < n := fun y hy => by
  obtain ⟨R, hR, h⟩ := (I.mem y).mp hy
  exact (I.one R hR).2.1 y h
theorem Pin.skip {n : Nat} {l : List Tie} {i : Nat} {Ls : List (List Nat)} {D : List Nat} (I : Pin n l i Ls D) (h : i ∈ D) : Pin n l (i + 1) Ls D :=
  { I with
    cov := fun y hy => by
      by_cases e : y = i
      · subst e; exact h
      · exact I.cov y (by omega)
    len := by have := I.len; omega }
theorem Pin.off {n : Nat} {l : List Tie} {i : Nat} {Ls : List (List Nat)} {D : List Nat} (I : Pin n l i Ls D) : Clo l fun y => y ∉ D := fun t ht => by
  have : t.1 ∈ D ↔ t.2 ∈ D := by
    rw [I.mem, I.mem]
    constructor
    · rintro ⟨R, hR, h⟩
      exact ⟨R, hR, ((I.one R hR).2.2.2 t ht).mp h⟩
    · rintro ⟨R, hR, h⟩
      exact ⟨R, hR, ((I.one R hR).2.2.2 t ht).mpr h⟩
  show ¬ _ ↔ ¬ _
  rw [this]
theorem Pin.add {n : Nat} {l : List Tie} {i : Nat} {Ls : List (List Nat)} {D : List Nat} (I : Pin n l i Ls D) {R : List Nat} (h1 : AscN R) (h2 : ∀ y ∈ R, y < n) (h3 : i ∈ R) (h4 : Clo l fun y => y ∈ R) (h5 : ∀ y ∈ R, y ∉ D) : Pin n l (i + 1) (Ls ++ [R]) (D ++ R) := by
  refine ⟨fun S hS => ?_, ?_, fun y => ?_, fun y hy => ?_, ?_, ?_⟩
  · rcases List.mem_append.mp hS with hS | hS
    · exact I.one S hS
    · have : S = R := by simpa using hS
      subst this
      exact ⟨h1, h2, fun e => (by rw [e] at h3; cases h3), h4⟩
  · refine List.pairwise_append.mpr ⟨I.dis, by simp, fun S hS R' hR' y hy hy' => ?_⟩
    have : R' = R := by simpa using hR'
    subst this
    exact h5 y hy' ((I.mem y).mpr ⟨S, hS, hy⟩)
  · rw [List.mem_append, I.mem]
    constructor
    · rintro (⟨S, hS, h⟩ | h)
      · exact ⟨S, List.mem_append_left _ hS, h⟩
      · exact ⟨R, by simp, h⟩
    · rintro ⟨S, hS, h⟩
      rcases List.mem_append.mp hS with hS | hS
      · exact .inl ⟨S, hS, h⟩
      · have : S = R := by simpa using hS
        subst this
        exact .inr h
  · by_cases e : y = i
    · subst e; exact List.mem_append_right _ h3
    · exact List.mem_append_left _ (I.cov y (by omega))
  · have := I.len
    rw [List.length_append]
    have : ([R] : List (List Nat)).length = 1 := rfl
    omega
  · exact List.nodup_append.mpr ⟨I.nd, h1.nd, fun y hy z hz e => by subst e; exact h5 y hz hy⟩
theorem Pin.pcs {n : Nat} {l : List Tie} {Ls : List (List Nat)} {D : List Nat} (I : Pin n l n Ls D) : Pcs n l Ls := ⟨I.one, I.dis, fun y hy => (I.mem y).mp (I.cov y hy), I.len⟩
theorem wDc_mapA {α : Type} {f : α → T} {K : α → Key} {V : α → T} {l : List α} {wi : WI} {g : WG} {kx vx : WV} {vs : List Nat} {τ τ1 : PSt} {Q : T → Md → PSt → Prop} (hi : ∀ P : List T → PSt → Prop, P (l.map f) τ1 → wi τ P) (hl : l.length ≤ sizeLine) (hw : wipeP τ1 vs = τ1) (hn : npn τ1 vs) (nd : (l.map K).Nodup)
    (step : ∀ x ∈ l, ∀ R : Key → T → PSt → Prop, R (K x) (V x) τ1 → g (f x) τ1 fun τ2 => kx τ2 fun y τ4 => vx τ4 fun z τ5 => npn τ5 vs ∧ ∃ k, keyT y = some k ∧ R k z (wipeP τ5 vs))
    (fin : Q (.dic (l.map K) (l.map V)) .ow τ1) : wDc wi g wYes kx vx vs τ Q := by
  refine hi _ ⟨by simpa using hl, fun i ks acc τ' => τ' = τ1 ∧ ks = (l.take i).map K ∧ acc = (l.take i).map V, fun i ks acc τ' h => by rw [h.1]; exact hn, ⟨rfl, by simp, by simp⟩, fun i t ks acc τ' e h => ?_, fun ks acc τ' h => ?_⟩
  · obtain ⟨rfl, rfl, rfl⟩ := h
    rw [hw]
    rw [List.getElem?_map] at e
    cases q : l[i]? with
    | none => rw [q] at e; cases e
    | some x =>
      rw [q] at e; cases e
      have hm : x ∈ l := List.mem_of_getElem? q
      have hq := step x hm (fun k z τ2 => τ2 = τ' ∧ putKs ((l.take i).map K) k = (l.take (i + 1)).map K ∧ putTs ((l.take i).map K) ((l.take i).map V) k z = (l.take (i + 1)).map V) ?_
      · simpa only [wYes, if_true] using hq
      · have hno : ¬ hasK ((l.take i).map K) (K x) = true := by
          intro hh
          have h1 : K x ∈ (l.take i).map K := by simpa [hasK] using hh
          have h2 : l.map K = (l.take i).map K ++ K x :: (l.drop (i + 1)).map K := by
            have hd : l.drop i = x :: l.drop (i + 1) := by
              obtain ⟨hl', hx⟩ := List.getElem?_eq_some_iff.mp q
              rw [List.drop_eq_getElem_cons hl', hx]
            rw [← List.map_cons, ← hd, ← List.map_append, List.take_append_drop]
          rw [h2] at nd
          exact (List.nodup_append.mp nd).2.2 _ h1 _ (List.mem_cons_self ..) rfl
        refine ⟨rfl, ?_, ?_⟩
        · unfold putKs
          rw [if_neg hno, take_succ_get q, List.map_append]; rfl
        · unfold putTs
          rw [if_neg hno, take_succ_get q, List.map_append]; rfl
  · obtain ⟨rfl, rfl, rfl⟩ := h
    rw [hw, List.length_map, List.take_length]
    exact fin
theorem p_pieces_in : ∀ ts Pq, ts.length = 2 → s_pieces_in ts Pq → w_pieces_in (PE0 Pq) (τ0 7 ts) := by
  rintro ts Pq _ ⟨n, l, rfl, hn, hl, ht, h⟩
  simp [w_pieces_in]
  obtain ⟨J, hJ⟩ : ∃ J : Nat → PSt → Prop, J = fun i τ => ∃ (Ls : List (List Nat)) (D : List Nat) (us : List T) (u4 u5 : Option (T × Md)), Pin n l i Ls D ∧ np u4 ∧ np u5 ∧
    τ = [some (.int (n : Nat), .sh), some (.tup (tiesT l), .sh), some (.lst (Ls.map rowT), .ow), some (setT D us, .ow), u4, u5, none] := ⟨_, rfl⟩
  have hsz : 4194304 ≤ sizeLine := by rw [sizeLine_eq]; decide
  refine wFor_n (n := n) (τ1 := [some (.int (n : Nat), .sh), some (.tup (tiesT l), .sh), some (.lst [], .ow), some (.dic [] [], .ow), none, none, none]) (fun Q hQ => ?_) J ?_ ?_ ?_
  · simp
    exact ⟨by omega, hQ⟩
  · rw [hJ]
    exact ⟨[], [], [], none, none, ⟨fun _ h => (List.not_mem_nil h).elim, List.Pairwise.nil, by simp, fun y hy => by omega, Nat.le_refl _, List.nodup_nil⟩, by simp, by simp, rfl⟩
  · intro i τ hi q
    rw [hJ] at q
    obtain ⟨Ls, D, us, u4, u5, I, h4, h5, rfl⟩ := q
    have hK : hasK (D.map kn) (Sum.inl ((i : Nat) : Int)) = D.contains i := hasK_kn
    have hdl := nd_len I.nd I.lt
    simp [h4, h5, setT, hK]
    by_cases c : i ∈ D
    · rw [if_pos c, hJ]
      exact ⟨Ls, D, us, some (.int (i : Nat), .sh), u5, I.skip c, np_sh, h5, rfl⟩
    · rw [if_neg c]
      refine ⟨n, l, i, rfl, hn, hl, hi, ht, fun R r1 r2 r3 r4 => ?_⟩
      have r5 : ∀ y ∈ R, y < n := r4 (fun y => y < n) (fun t h => by have := ht t h; omega) hi
      have r6 : ∀ y ∈ R, y ∉ D := r4 (fun y => y ∉ D) I.off c
      have hrl := nd_len r1.nd r5
      refine wDc_mapA (l := R) (f := fun y : Nat => T.int (y : Nat)) (K := kn) (V := fun _ => .bl true) (τ1 := [some (.int (n : Nat), .sh), some (.tup (tiesT l), .sh), some (.lst (Ls.map rowT), .ow), some (.dic (D.map kn) us, .ow), some (.int (i : Nat), .sh), some (.lst (natsT R), .sh), none]) (fun P hP => ?_) (by omega) rfl (by simp) ?_ (fun y hy R' hR' => ?_) ?_
      · simp [natsT] at hP ⊢
        exact hP
      · exact (List.Pairwise.map kn (fun a b h e => h (kn_inj e)) r1.nd)
      · simp
        exact hR'
      · have em := mergKs_new R D us r1.nd r6
        have hll := I.len
        simp [em]
        refine ⟨by omega, by omega, ?_⟩
        rw [hJ]
        exact ⟨Ls ++ [R], D ++ R, (mergKs (D.map kn) us (R.map kn) (R.map fun _ => T.bl true)).2, some (.int (i : Nat), .sh), some (.lst (natsT R), .sh), I.add r1 r5 r2 r3 r6, np_sh, np_sh, by simp [setT, rowT]⟩
  · intro τ p
    rw [hJ] at p
    obtain ⟨Ls, D, us, u4, u5, I, h4, h5, rfl⟩ := p
    simp
    exact h Ls I.pcs
theorem p_pieces : ∀ ts Pq, ts.length = 1 → s_pieces ts Pq → w_pieces (PE0 Pq) (τ0 2 ts) := by
  rintro ts Pq _ ⟨n, l, rfl, ok, h⟩
  simp [w_pieces]
  have hsz : 4194304 ≤ sizeLine := by rw [sizeLine_eq]; decide
  have hn1 := ok.n1
  refine ⟨n, l, rfl, ok, ?_⟩
  refine wLc_mapS (fun us => ∃ Ls, Pcs n l Ls ∧ us = Ls.map rowT) (fun t => match t with | .lst us => .tup us | _ => .non) (fun P hP => ?_) rfl (by simp) ?_
  · simp [webT]
    exact ⟨n, l, rfl, hn1, ok.le, fun t h => by have := ok.tie t h; omega, fun Ls hL => by have := hP _ ⟨Ls, hL, rfl⟩; simpa [webT] using this⟩
  · rintro us ⟨Ls, hL, rfl⟩
    have := hL.len
    refine ⟨by rw [List.length_map]; omega, fun u hu R hR => ?_, ?_⟩
    · obtain ⟨r, hm, rfl⟩ := List.mem_map.mp hu
      simpa [rowT] using hR
    · have e : (Ls.map rowT).map (fun t => match t with | .lst us => T.tup us | _ => .non) = Ls.map lotT := by
        rw [List.map_map]; rfl
      rw [e]
      simp
      exact h Ls hL
end K44

set_option Elab.async false
set_option linter.all false
set_option maxRecDepth 100000
set_option maxHeartbeats 0
namespace K44
open PySem PySem.Spec PyProof.Rows L2 Z
theorem val_idx : ∀ (r : List Nat) (s x : Nat), x ∈ r → valT ((r.zipIdx s).map fun p => kn p.1) ((r.zipIdx s).map fun p => T.int (p.2 : Nat)) (kn x) = some (.int ((s + r.idxOf x : Nat) : Int))
  | [], _, _, h => by cases h
  | y :: r, s, x, h => by
    rw [List.zipIdx_cons, List.map_cons, List.map_cons]
    unfold valT
    rw [List.zip_cons_cons, List.find?_cons]
    by_cases e : y = x
    · subst e
      simp
    · have hne : ¬ kn y = kn x := fun q => e (kn_inj q)
      have hx : x ∈ r := by
        rcases List.mem_cons.mp h with q | q
        · exact absurd q.symm e
        · exact q
      have ih := val_idx r (s + 1) x hx
      unfold valT at ih
      simp only [hne, decide_false]
      rw [ih, List.idxOf_cons, show (y == x) = false from beq_false_of_ne e, cond_false]
      congr 2
      omega
theorem has_idx (r : List Nat) (s x : Nat) : hasK ((r.zipIdx s).map fun p => kn p.1) (kn x) = r.contains x := by
  have e : (r.zipIdx s).map (fun p => kn p.1) = r.map kn := by
    have : ((r.zipIdx s).map (·.1)).map kn = r.map kn := by rw [List.zipIdx_map_fst]
    rwa [List.map_map] at this
  rw [e, hasK_kn]
theorem p_part_in : ∀ ts Pq, ts.length = 2 → s_part_in ts Pq → w_part_in (PE0 Pq) (τ0 7 ts) := by
  rintro ts Pq _ ⟨n, l, r, rfl, hn, hl, ro, h⟩
  have hsz : 4194304 ≤ sizeLine := by rw [sizeLine_eq]; decide
  have hrl := nd_len ro.asc.nd ro.lt
  have hen : enumTs (natsT r) = r.zipIdx.map fun p => .tup [.int (p.2 : Nat), .int (p.1 : Nat)] := enumTs_map (f := fun x : Nat => T.int (x : Nat)) r
  simp [w_part_in]
  refine wDc_mapA (l := r.zipIdx) (f := fun p : Nat × Nat => .tup [.int (p.2 : Nat), .int (p.1 : Nat)]) (K := fun p => kn p.1) (V := fun p => .int (p.2 : Nat)) (τ1 := [some (webT n l, .sh), some (lotT r, .sh), none, none, none, none, none]) (fun P hP => ?_) (by simp; omega) rfl (by simp) ?_ (fun p hp R' hR' => ?_) ?_
  · simp [lotT, hen] at hP ⊢
    exact hP
  · have e : r.zipIdx.map (fun p => kn p.1) = r.map kn := by
      have : (r.zipIdx.map (·.1)).map kn = r.map kn := by rw [List.zipIdx_map_fst]
      rwa [List.map_map] at this
    rw [e]
    exact List.Pairwise.map kn (fun a b h e => h (kn_inj e)) ro.asc.nd
  · simp
    exact hR'
  · simp [lotT]
    refine wLc_pureA0 (l := l) (f := tieT) (fun t => if inR r t = true then some (tieT (posT r t)) else none) (fun P hP => ?_) (by omega) rfl (by simp) (fun t ht R' hR' => ?_) ?_
    · simp [webT] at hP ⊢
      exact hP
    · have h1 : hasK (r.zipIdx.map fun p => kn p.1) (Sum.inl ((t.1 : Nat) : Int)) = r.contains t.1 := has_idx r 0 t.1
      have h2 : hasK (r.zipIdx.map fun p => kn p.1) (Sum.inl ((t.2 : Nat) : Int)) = r.contains t.2 := has_idx r 0 t.2
      simp [tieT, h1, h2]
      by_cases c1 : t.1 ∈ r
      · rw [if_pos c1]
        by_cases c2 : t.2 ∈ r
        · have v1 := val_idx r 0 t.1 c1
          have v2 := val_idx r 0 t.2 c2
          have v1 : valT (r.zipIdx.map fun p => kn p.1) (r.zipIdx.map fun p => T.int (p.2 : Nat)) (Sum.inl ((t.1 : Nat) : Int)) = some (.int ((0 + r.idxOf t.1 : Nat) : Int)) := v1
          have v2 : valT (r.zipIdx.map fun p => kn p.1) (r.zipIdx.map fun p => T.int (p.2 : Nat)) (Sum.inl ((t.2 : Nat) : Int)) = some (.int ((0 + r.idxOf t.2 : Nat) : Int)) := v2
          rw [Nat.zero_add] at v1 v2
          have hi : inR r t = true := by unfold inR; simp [c1, c2]
          rw [if_pos hi] at hR'
          simp [c2, v1, v2]
          exact hR'
        · have hi : ¬ inR r t = true := by unfold inR; simp [c1, c2]
          rw [if_neg hi] at hR'
          simp [c2]
          exact hR'
      · have hi : ¬ inR r t = true := by unfold inR; simp [c1]
        rw [if_neg hi] at hR'
        rw [if_neg c1]
        exact hR'
    · refine ⟨r.length, (l.filter (inR r)).map (posT r), ?_, h⟩
      have e : ∀ l : List Tie, l.filterMap (fun t => if inR r t = true then some (tieT (posT r t)) else none) = tiesT ((l.filter (inR r)).map (posT r)) := fun l => by
        unfold tiesT
        rw [List.map_map]
        induction l with
        | nil => rfl
        | cons t l ih =>
          rw [List.filterMap_cons, List.filter_cons, ih]
          cases inR r t <;> rfl
      rw [e]
theorem p_part_of : ∀ ts Pq, ts.length = 2 → s_part_of ts Pq → w_part_of (PE0 Pq) (τ0 2 ts) := by
  rintro ts Pq _ ⟨n, l, r, rfl, ok, ro, hr, h⟩
  simp [w_part_of]
  refine ⟨n, l, r, rfl, ok, ro, ?_⟩
  have hne : ¬ natsT r = [] := by unfold natsT; simp [hr]
  simp [lotT, hne]
  exact ⟨sh_tsh (d := 1) (sh_tup sh_nats), n, l, r, rfl, ok.n1, ok.le, ro, h⟩
end K44

set_option Elab.async false
set_option linter.all false
set_option maxRecDepth 100000
set_option maxHeartbeats 0
namespace K44
open PySem PySem.Spec PyProof.Rows L2 Z
/-! ### plain facts of webs -/
theorem swo_ltTie : SrtO.Swo ltTie := ZS.swo_lexk fun t : Tie => [(t.1 : Int), (t.2 : Int)]
theorem srtTies_perm (l : List Tie) : (srtTies l).Perm l := isort_perm l
theorem lx_of {a b : Tie} (h : ltTie b a = false) : lxT a b = true := by
  unfold ltTie at h
  rw [HT.lexLt_cons] at h
  unfold lxT
  by_cases e : (b.1 : Int) = (a.1 : Int)
  · rw [if_pos e, HT.lexLt_cons] at h
    have e1 : a.1 = b.1 := by omega
    by_cases e2 : (b.2 : Int) = (a.2 : Int)
    · have : a.2 ≤ b.2 := by omega
      simp [e1, this]
    · rw [if_neg e2] at h
      have := of_decide_eq_false h
      have : a.2 ≤ b.2 := by omega
      simp [e1, this]
  · rw [if_neg e] at h
    have := of_decide_eq_false h
    have : a.1 < b.1 := by omega
    simp [this]
theorem srtTies_ok {n : Nat} {L : List Tie} (h0 : 1 ≤ n) (h1 : n ≤ 10) (hl : L.length ≤ 20) (ht : ∀ t ∈ L, t.1 < t.2 ∧ t.2 < n) : WebOk n (srtTies L) := by
  have p := srtTies_perm L
  refine ⟨h0, h1, by rw [p.length_eq]; exact hl, fun t h => ht t (p.mem_iff.mp h), ?_⟩
  have : (srtTies L).Pairwise fun a b => ltTie b a = false := isort_srtd swo_ltTie L
  exact this.imp fun h => lx_of h
theorem WebOk.sub {n : Nat} {l m : List Tie} (ok : WebOk n l) (s : m.Sublist l) : WebOk n m :=
  ⟨ok.n0, ok.n1, Nat.le_trans s.length_le ok.le, fun t ht => ok.tie t (s.mem ht), ok.srt.sublist s⟩
theorem tM_of {l m : List Tie} (hl : l.length = m.length) (h : ∀ k, cM l k = cM m k) : tM l = tM m := by
  rw [← sM_all l.length l (l.length + 1) (Nat.le_refl _) (by omega), ← sM_all m.length m (l.length + 1) (Nat.le_refl _) (by omega)]
  unfold sM
  congr 1
  exact List.map_congr_left fun k _ => h k
theorem tM_perm {l m : List Tie} (p : l.Perm m) : tM l = tM m := tM_of p.length_eq fun k => cM_perm p k
theorem tM_map {f : Tie → Tie} {l : List Tie} (h : ∀ t ∈ l, ∀ u ∈ l, meets (f t) (f u) = meets t u) : tM (l.map f) = tM l := tM_of (by simp) fun k => cM_map l.length (Nat.le_refl _) h k
theorem idx_lt {r : List Nat} (ha : AscN r) {x y : Nat} (hx : x ∈ r) (hy : y ∈ r) (h : x < y) : r.idxOf x < r.idxOf y := by
  have h1 := List.idxOf_lt_length_of_mem hx
  have h2 := List.idxOf_lt_length_of_mem hy
  have e1 : r[r.idxOf x] = x := List.getElem_idxOf h1
  have e2 : r[r.idxOf y] = y := List.getElem_idxOf h2
  by_cases c : r.idxOf x < r.idxOf y
  · exact c
  · by_cases c2 : r.idxOf x = r.idxOf y
    · have : x = y := by
        rw [← e1, ← e2]
        simp only [c2]
      omega
    · have := (List.pairwise_iff_getElem.mp ha) (r.idxOf y) (r.idxOf x) h2 h1 (by omega)
      rw [e1, e2] at this
      omega
theorem idx_eq {r : List Nat} (ha : AscN r) {x y : Nat} (hx : x ∈ r) (hy : y ∈ r) : (r.idxOf x = r.idxOf y) ↔ x = y := by
  constructor
  · intro h
    by_cases c : x < y
    · have := idx_lt ha hx hy c; omega
    · by_cases c2 : y < x
      · have := idx_lt ha hy hx c2; omega
      · omega
  · rintro rfl; rfl
theorem inR_iff {r : List Nat} {t : Tie} : inR r t = true ↔ t.1 ∈ r ∧ t.2 ∈ r := by
  unfold inR
  rw [Bool.and_eq_true, List.contains_iff_mem, List.contains_iff_mem]
theorem part_ok {n : Nat} {l : List Tie} {r : List Nat} (ok : WebOk n l) (ro : LotOk n r) (hr : r ≠ []) : WebOk r.length (part r l) := by
  have h1 := nd_len ro.asc.nd ro.lt
  have h2 := List.length_pos_iff.mpr hr
  have h3 := List.length_filter_le (inR r) l
  have h4 := ok.n1
  have h5 := ok.le
  refine srtTies_ok (by omega) (by omega) (by rw [List.length_map]; omega) fun t ht => ?_
  obtain ⟨u, hu, rfl⟩ := List.mem_map.mp ht
  obtain ⟨a, b⟩ := List.mem_filter.mp hu
  obtain ⟨b1, b2⟩ := inR_iff.mp b
  exact ⟨idx_lt ro.asc b1 b2 (ok.tie u a).1, List.idxOf_lt_length_of_mem b2⟩
theorem part_tM {l : List Tie} {r : List Nat} (ha : AscN r) : tM (part r l) = tM (l.filter (inR r)) := by
  unfold part
  rw [tM_perm (srtTies_perm _)]
  refine tM_map fun t ht u hu => ?_
  obtain ⟨t1, t2⟩ := inR_iff.mp (List.mem_filter.mp ht).2
  obtain ⟨u1, u2⟩ := inR_iff.mp (List.mem_filter.mp hu).2
  unfold meets tou posT
  simp only [idx_eq ha u1 t1, idx_eq ha u1 t2, idx_eq ha u2 t1, idx_eq ha u2 t2]
theorem prod_cons' (x : Nat) (l : List Nat) : (x :: l).prod = x * l.prod := by simp
theorem pcs_prod : ∀ (Ls : List (List Nat)) (l : List Tie), (∀ R ∈ Ls, Clo l fun y => y ∈ R) → Ls.Pairwise (fun R S => ∀ y ∈ R, y ∉ S) → (∀ t ∈ l, ∃ R ∈ Ls, t.1 ∈ R) → tM l = (Ls.map fun R => tM (l.filter (inR R))).prod
  | [], l, _, _, h => by
    have : l = [] := by
      cases l with
      | nil => rfl
      | cons t l =>
        obtain ⟨R, hR, _⟩ := h t (List.mem_cons_self ..)
        cases hR
    subst this
    rfl
  | R :: Ls, l, hc, hd, h => by
    have hd' := List.pairwise_cons.mp hd
    have hR := hc R (List.mem_cons_self ..)
    have hp : (l.filter (inR R) ++ l.filter (fun t => !inR R t)).Perm l := List.filter_append_perm _ l
    have hno : ∀ t ∈ l, inR R t = false → t.1 ∉ R ∧ t.2 ∉ R := fun t ht e => by
      have hn : ¬ (t.1 ∈ R ∧ t.2 ∈ R) := fun q => by rw [inR_iff.mpr q] at e; cases e
      have := hR t ht
      grind
    rw [List.map_cons, prod_cons', ← tM_perm hp]
    rw [tM_mul _ (Nat.le_refl _) fun t ht u hu => by
      obtain ⟨t1, t2⟩ := inR_iff.mp (List.mem_filter.mp ht).2
      obtain ⟨hu1, hu2⟩ := List.mem_filter.mp hu
      obtain ⟨u1, u2⟩ := hno u hu1 (by simpa using hu2)
      unfold meets tou
      simp only [Bool.or_eq_false_iff, decide_eq_false_iff_not]
      refine ⟨⟨fun e => u1 (e ▸ t1), fun e => u2 (e ▸ t1)⟩, fun e => u1 (e ▸ t2), fun e => u2 (e ▸ t2)⟩]
    congr 1
    rw [pcs_prod Ls (l.filter fun t => !inR R t) (fun S hS t ht => hc S (List.mem_cons_of_mem _ hS) t (List.mem_filter.mp ht).1) hd'.2 fun t ht => by
      obtain ⟨ht1, ht2⟩ := List.mem_filter.mp ht
      obtain ⟨S, hS, hm⟩ := h t ht1
      rcases List.mem_cons.mp hS with rfl | hS
      · exact absurd hm (hno t ht1 (by simpa using ht2)).1
      · exact ⟨S, hS, hm⟩]
    congr 1
    refine List.map_congr_left fun S hS => ?_
    congr 1
    rw [List.filter_filter]
    refine List.filter_congr fun t ht => ?_
    by_cases e : inR S t = true
    · have := (inR_iff.mp e).1
      have hn : inR R t = false := by
        cases q : inR R t with
        | false => rfl
        | true => exact absurd this (hd'.1 S hS t.1 (inR_iff.mp q).1)
      rw [e, hn]; rfl
    · rw [Bool.eq_false_iff.mpr e]; rfl
theorem Pcs.prod {n : Nat} {l : List Tie} {Ls : List (List Nat)} (ok : WebOk n l) (h : Pcs n l Ls) : tM l = (Ls.map fun R => tM (part R l)).prod := by
  rw [pcs_prod Ls l (fun R hR => (h.one R hR).2.2.2) h.dis fun t ht => by
    have := ok.tie t ht
    exact h.cov t.1 (by omega)]
  congr 1
  exact List.map_congr_left fun R hR => (part_tM (h.one R hR).1).symm
theorem erase_perm {l : List Tie} {i : Nat} (hi : i < l.length) : l.Perm (tieAt l i :: l.eraseIdx i) := by
  have e : tieAt l i = l[i] := by
    unfold tieAt
    rw [List.getD_eq_getElem?_getD, List.getElem?_eq_getElem hi]; rfl
  rw [e, List.eraseIdx_eq_take_drop_succ]
  have h2 : l = l.take i ++ l[i] :: l.drop (i + 1) := by rw [← List.drop_eq_getElem_cons hi, List.take_append_drop]
  have h3 : (l.take i ++ l[i] :: l.drop (i + 1)).Perm (l[i] :: (l.take i ++ l.drop (i + 1))) := List.perm_middle
  rw [← h2] at h3
  exact h3
theorem tM_erase {l : List Tie} {i : Nat} (hi : i < l.length) : tM (l.eraseIdx i) + tM (away (tieAt l i) l) = tM l := by
  have p := erase_perm hi
  have h1 := tM_perm p
  rw [tM_cons] at h1
  have h2 : (away (tieAt l i) l).Perm (away (tieAt l i) (l.eraseIdx i)) := by
    have := away_perm (t := tieAt l i) p
    have e : away (tieAt l i) (tieAt l i :: l.eraseIdx i) = away (tieAt l i) (l.eraseIdx i) := by
      unfold away
      rw [List.filter_cons]
      have : meets (tieAt l i) (tieAt l i) = true := by unfold meets tou; simp
      rw [this]; rfl
    rwa [e] at this
  rw [tM_perm h2]
  omega
end K44

set_option Elab.async false
set_option linter.all false
set_option maxRecDepth 100000
set_option maxHeartbeats 0
namespace K44
open PySem PySem.Spec PyProof.Rows L2 Z
theorem wFor_bind {wi : WI} {g : WG} {b : WS} {P : PEnds} {τ : PSt} (h : wi τ fun ts τ1 => wFor (fun _ Q => Q ts τ1) g b P τ) : wFor wi g b P τ := h
theorem turn_ne {n a r : Nat} (ha : a < n) (hr : r + 1 < n) : (a + 1 + r) % n < n ∧ a ≠ (a + 1 + r) % n := by
  refine ⟨Nat.mod_lt _ (by omega), ?_⟩
  by_cases h : a + 1 + r < n
  · rw [Nat.mod_eq_of_lt h]; omega
  · rw [Nat.mod_eq_sub_mod (by omega), Nat.mod_eq_of_lt (by omega)]
    omega
theorem mm_ok {n : Nat} {t : Tie} (h1 : t.1 < n) (h2 : t.2 < n) (h3 : t.1 ≠ t.2) : (mm t).1 < (mm t).2 ∧ (mm t).2 < n := by
  unfold mm
  show min t.1 t.2 < max t.1 t.2 ∧ max t.1 t.2 < n
  omega
theorem p__law_drawn : ∀ c ts Pq, ts.length = 0 → s__law_drawn c ts Pq → w__law_drawn (PE1 Pq) (τ1 5 c ts) := by
  rintro c ts Pq _ ⟨rfl, hd, h⟩
  simp [w__law_drawn]
  refine ⟨9, rfl, hd, by omega, by omega, fun r1 c1 hr1 hc1 => ?_⟩
  simp
  obtain ⟨n, hn⟩ : ∃ n, n = 2 + r1 := ⟨_, rfl⟩
  have hn' : (2 : Int) + (r1 : Int) = (n : Int) := by omega
  rw [hn']
  have hsz : 4194304 ≤ sizeLine := by rw [sizeLine_eq]; decide
  obtain ⟨J, hJ⟩ : ∃ J : Nat → PSt → Prop, J = fun i τ => ∃ (c : T) (L : List Tie) (u3 u4 : Option (T × Md)), Dice c ∧ L.length = i ∧ (∀ t ∈ L, t.1 < n ∧ t.2 < n ∧ t.1 ≠ t.2) ∧ np u3 ∧ np u4 ∧
    τ = [some (c, .pn), some (.int (n : Nat), .sh), some (.lst (tiesT L), .ow), u3, u4] := ⟨_, rfl⟩
  refine wFor_bind ?_
  simp
  refine ⟨15, rfl, hc1, by omega, by omega, fun r2 c2 hr2 hc2 => ?_⟩
  simp
  refine ⟨by omega, ?_⟩
  refine wFor_n (n := r2) (τ1 := [some (c2, .pn), some (.int (n : Nat), .sh), some (.lst [], .ow), none, none]) (fun Q hQ => ?_) J ?_ ?_ ?_
  · exact hQ
  · rw [hJ]
    exact ⟨c2, [], none, none, hc2, rfl, fun _ h => (List.not_mem_nil h).elim, by simp, by simp, rfl⟩
  · intro i τ hi q
    rw [hJ] at q
    obtain ⟨c, L, u3, u4, hc, hL, ht, h3, h4, rfl⟩ := q
    simp [h3, h4]
    refine ⟨n, rfl, hc, by omega, by omega, fun a c3 ha hc3 => ?_⟩
    simp [h4]
    refine ⟨(n : Int) - 1, rfl, hc3, by omega, by omega, fun r c4 hr hc4 => ?_⟩
    simp
    obtain ⟨t1, t2⟩ := turn_ne (n := n) (a := a) (r := r) (by omega) (by omega)
    have e : ((a : Int) + 1 + (r : Int)) % (n : Int) = (((a + 1 + r) % n : Nat) : Int) := by
      have e1 : (a : Int) + 1 + (r : Int) = ((a + 1 + r : Nat) : Int) := by omega
      rw [e1]
      exact (Int.natCast_emod _ _).symm
    rw [e]
    refine ⟨by omega, by simp [tiesT]; omega, ?_⟩
    rw [hJ]
    refine ⟨c4, L ++ [(a, (a + 1 + r) % n)], some (.int (i : Nat), .sh), some (.int (a : Nat), .sh), hc4, by simp [hL], fun t h => ?_, np_sh, np_sh, by simp [tiesT, tieT]⟩
    rcases List.mem_append.mp h with h | h
    · exact ht t h
    · have : t = (a, (a + 1 + r) % n) := by simpa using h
      subst this
      have ha' : a < n := by omega
      exact ⟨ha', t1, t2⟩
  · intro τ q
    rw [hJ] at q
    obtain ⟨c, L, u3, u4, hc, hL, ht, h3, h4, rfl⟩ := q
    simp
    refine ⟨n, L, rfl, by omega, ?_⟩
    refine h n _ _ (srtTies_ok (by omega) (by omega) (by rw [List.length_map]; omega) fun t h => ?_) (by omega) hc
    obtain ⟨u, hu, rfl⟩ := List.mem_map.mp h
    obtain ⟨a1, a2, a3⟩ := ht u hu
    exact mm_ok a1 a2 a3
end K44

set_option Elab.async false
set_option linter.all false
set_option maxRecDepth 100000
set_option maxHeartbeats 0
namespace K44
open PySem PySem.Spec PyProof.Rows L2 Z
theorem srtP_filter (p : List Nat → Bool) (L : List (List Nat)) : (srtP L).filter p = srtP (L.filter p) :=
  srtd_uniq (fun a _ b _ h1 h2 => nat_inj (lex_anti h1 h2)) (((srtP_perm L).filter p).trans (srtP_perm _).symm) ((isort_srtd swo_ltP L).sublist List.filter_sublist) (isort_srtd swo_ltP _)
theorem sh_ties {l : List Tie} : ∀ t ∈ tiesT l, sh 1 t := fun t ht => by
  obtain ⟨u, _, rfl⟩ := List.mem_map.mp ht
  exact sh_tup fun x hx => by
    simp at hx
    rcases hx with rfl | rfl <;> exact sh_int
theorem p__law_drawn_right : ∀ c ts Pq, ts.length = 0 → s__law_drawn_right c ts Pq → w__law_drawn_right (PE1 Pq) (τ1 11 c ts) := by
  rintro c ts Pq _ ⟨rfl, hd, h⟩
  simp [w__law_drawn_right]
  refine ⟨rfl, hd, fun n l c1 ok hn2 hc1 => ?_⟩
  simp
  refine ⟨n, l, rfl, ok.le, ?_⟩
  have hTS : ∀ L : List (List Nat), tsh (.lst (L.map pT)) = true := fun L => sh_tsh (d := 2) (sh_lst sh_pTs)
  have hTQ : ∀ L : List (List Nat), teq (.lst (L.map pT)) (.lst (L.map pT)) = true := fun L => teq_self (d := 2) (sh_lst sh_pTs)
  have htm := tM_20 ok.le
  have hn1 := ok.n1
  have hll := ok.le
  have hlen : (srtP (allP l)).length = tM l := by rw [srtP_len, allP_len]
  have hsz : 4194304 ≤ sizeLine := by rw [sizeLine_eq]; decide
  simp
  refine ⟨n, l, rfl, ok, ?_⟩
  simp [hTS, hTQ]
  refine ⟨l, _, rfl, ok.le, srtP_perm _, fun r hr => ⟨n, l, r, rfl, ok, hr, ?_⟩⟩
  simp
  refine ⟨n, l, rfl, ok, ?_⟩
  simp
  refine wLc_pureA0 (l := srtP (allP l)) (f := pT) (fun s => if 2 * s.length = n then some (pT s) else none) (fun P hP => ?_) (by omega) rfl (by simp) (fun s hs R hR => ?_) ?_
  · simp
    exact hP
  · simp [pT, webT]
    refine ⟨.inl (.inl ⟨by omega, by omega⟩), ?_⟩
    by_cases e : 2 * s.length = n
    · rw [if_pos e] at hR
      rw [if_pos (by omega)]
      exact hR
    · rw [if_neg e] at hR
      rw [if_neg (by omega)]
      exact hR
  · have e1 : ∀ L : List (List Nat), L.filterMap (fun s => if 2 * s.length = n then some (pT s) else none) = (L.filter fun s => decide (2 * s.length = n)).map pT := fun L => by
      induction L with
      | nil => rfl
      | cons s L ih =>
        rw [List.filterMap_cons, List.filter_cons, ih]
        by_cases e : 2 * s.length = n
        · simp [e]
        · simp [e]
    rw [e1, srtP_filter]
    have e2 : (allP l).filter (fun s => decide (2 * s.length = n)) = fullP n l := rfl
    rw [e2]
    simp [hTS, hTQ]
    refine wFor_bind ?_
    simp
    refine ⟨n, l, rfl, ok, fun Ls hL => ?_⟩
    simp
    obtain ⟨J, hJ⟩ : ∃ J : Nat → PSt → Prop, J = fun i τ => ∃ (u4 : Option (T × Md)), np u4 ∧
      τ = [some (c1, .pn), some (webT n l, .sh), some (.lst ((srtP (allP l)).map pT), .sh), some (.int ((((Ls.take i).map fun R => tM (part R l)).prod : Nat) : Int), .sh), u4, none, none, none, none, none, none] := ⟨_, rfl⟩
    refine wFor_map (l := Ls) (f := lotT) (τ1 := [some (c1, .pn), some (webT n l, .sh), some (.lst ((srtP (allP l)).map pT), .sh), some (.int 1, .sh), none, none, none, none, none, none, none]) (fun Q hQ => ?_) J ?_ ?_ ?_
    · exact hQ
    · rw [hJ]
      exact ⟨none, by simp, rfl⟩
    · intro i R τ e q
      rw [hJ] at q
      obtain ⟨u4, h4, rfl⟩ := q
      have hR := hL.one R (List.mem_of_getElem? e)
      have ro : LotOk n R := ⟨hR.1, hR.2.1⟩
      have po := part_ok ok ro hR.2.2.1
      simp [h4]
      refine ⟨n, l, R, rfl, ok, ro, hR.2.2.1, R.length, part R l, rfl, po, ?_⟩
      have hpt := tM_20 po.le
      simp [CMul]
      refine ⟨by first | exact .inl (.inr ⟨by omega, by omega⟩) | exact .inl (.inr (by omega)), ?_⟩
      rw [hJ]
      refine ⟨some (lotT R, .sh), np_sh, ?_⟩
      rw [take_succ_get e, List.map_append, List.map_cons, List.map_nil, List.prod_append]
      simp
    · intro τ q
      rw [hJ] at q
      obtain ⟨u4, h4, rfl⟩ := q
      rw [List.take_length, ← hL.prod ok]
      simp [hlen, webT]
      have hT0 : tsh (.tup (tiesT l)) = true := sh_tsh (d := 2) (sh_tup sh_ties)
      refine ⟨hT0, ?_⟩
      by_cases hnil : l = []
      · subst hnil
        rw [if_pos (by rfl)]
        have e5 : srtP (allP []) = [[]] := rfl
        rw [e5]
        exact ⟨hTS [[]], hTS [[]], by have := h c1 hc1; rwa [show teq (.lst ([[]].map pT)) (.lst [.tup []]) = true from hTQ [[]]]⟩
      · have hne : ¬ tiesT l = [] := by unfold tiesT; simp [hnil]
        have hlp := List.length_pos_iff.mpr hnil
        have hle : (tiesT l).length = l.length := by simp [tiesT]
        rw [if_neg hne, hle]
        refine ⟨(l.length : Int), rfl, hc1, by omega, by omega, fun i c2 hi hc2 => ?_⟩
        have hi : i < l.length := by omega
        have hat := ties_at hi
        simp [hat, tieT]
        refine wLc_pureA0 (l := l) (f := tieT) (fun u => if meets (tieAt l i) u = true then none else some (tieT u)) (fun P hP => ?_) (by omega) rfl (by simp) (fun u hu R hR => ?_) ?_
        · simp
          exact hP
        · simp [tieT, oIn_tie, -oIn]
          unfold meets at hR
          by_cases g1 : tou (tieAt l i).1 u = true
          · simp [g1, tieT] at hR ⊢
            exact hR
          · by_cases g2 : tou (tieAt l i).2 u = true
            · simp [g1, g2, tieT] at hR ⊢
              exact hR
            · simp [g1, g2, tieT] at hR ⊢
              exact hR
        · have e6 : ∀ m : List Tie, m.filterMap (fun u => if meets (tieAt l i) u = true then none else some (tieT u)) = tiesT (away (tieAt l i) m) := fun m => by
            unfold away tiesT
            induction m with
            | nil => rfl
            | cons u m ih =>
              rw [List.filterMap_cons, List.filter_cons, ih]
              cases meets (tieAt l i) u <;> rfl
          rw [e6]
          simp
          refine ⟨n, l, i, rfl, ok, hi, n, l.eraseIdx i, rfl, ok.sub (List.eraseIdx_sublist ..), n, away (tieAt l i) l, rfl, ok.sub List.filter_sublist, ?_⟩
          have := tM_erase hi
          simp [hlen]
          rw [decide_eq_true (by omega)]
          exact h c2 hc2
end K44

set_option Elab.async false
set_option linter.all false
set_option maxRecDepth 100000
set_option maxHeartbeats 0
namespace K44
open PySem PySem.Spec PyProof.Rows L2 Z
theorem meets_mm (t u : Tie) : meets (mm t) (mm u) = meets t u := by
  unfold meets tou mm
  rw [Bool.eq_iff_iff]
  simp only [Bool.or_eq_true, decide_eq_true_eq]
  omega
theorem getD_inj {vs : List Nat} (h : vs.Nodup) {a b : Nat} (ha : a < vs.length) (hb : b < vs.length) : vs.getD a 0 = vs.getD b 0 ↔ a = b := by
  rw [List.getD_eq_getElem?_getD, List.getD_eq_getElem?_getD, List.getElem?_eq_getElem ha, List.getElem?_eq_getElem hb, Option.getD_some, Option.getD_some]
  constructor
  · intro e
    have hp := List.pairwise_iff_getElem.mp h
    by_cases c : a < b
    · exact absurd e (hp a b ha hb c)
    · by_cases c2 : b < a
      · exact absurd e.symm (hp b a hb ha c2)
      · omega
  · rintro rfl; rfl
structure Same (n : Nat) (l m : List Tie) : Prop where
  ok : WebOk n m
  cnt : ∀ k, cM m k = cM l k
  tot : tM m = tM l
theorem named_ok {n : Nat} {l : List Tie} (ok : WebOk n l) {vs : List Nat} (hp : vs.Perm (List.range n)) : Same n l (srtTies (l.map (nmT vs))) := by
  have hnd : vs.Nodup := hp.nodup_iff.mpr List.nodup_range
  have hl : vs.length = n := by rw [hp.length_eq]; simp
  have hlt : ∀ a, a < n → vs.getD a 0 < n := fun a ha => by
    rw [List.getD_eq_getElem?_getD, List.getElem?_eq_getElem (by omega), Option.getD_some]
    exact List.mem_range.mp (hp.mem_iff.mp (List.getElem_mem _))
  have hm : ∀ t ∈ l, ∀ u ∈ l, meets (nmT vs t) (nmT vs u) = meets t u := fun t ht u hu => by
    have a1 := ok.tie t ht
    have a2 := ok.tie u hu
    unfold nmT
    rw [meets_mm]
    unfold meets tou
    simp only
    rw [show decide (vs.getD u.1 0 = vs.getD t.1 0) = decide (u.1 = t.1) from decide_eq_decide.mpr (getD_inj hnd (by omega) (by omega)),
      show decide (vs.getD u.2 0 = vs.getD t.1 0) = decide (u.2 = t.1) from decide_eq_decide.mpr (getD_inj hnd (by omega) (by omega)),
      show decide (vs.getD u.1 0 = vs.getD t.2 0) = decide (u.1 = t.2) from decide_eq_decide.mpr (getD_inj hnd (by omega) (by omega)),
      show decide (vs.getD u.2 0 = vs.getD t.2 0) = decide (u.2 = t.2) from decide_eq_decide.mpr (getD_inj hnd (by omega) (by omega))]
  refine ⟨srtTies_ok ok.n0 ok.n1 (by rw [List.length_map]; exact ok.le) fun t ht => ?_, fun k => ?_, ?_⟩
  · obtain ⟨u, hu, rfl⟩ := List.mem_map.mp ht
    have a := ok.tie u hu
    refine mm_ok (hlt _ (by omega)) (hlt _ (by omega)) fun e => ?_
    have e : vs.getD u.1 0 = vs.getD u.2 0 := e
    rw [getD_inj hnd (by omega) (by omega)] at e
    omega
  · rw [cM_perm (srtTies_perm _), cM_map _ (Nat.le_refl _) hm]
  · rw [tM_perm (srtTies_perm _), tM_map hm]
theorem web_ok {n : Nat} {L : List Tie} (h0 : 1 ≤ n) (h1 : n ≤ 10) (hl : L.length ≤ 20) (ht : ∀ t ∈ L, t.1 < n ∧ t.2 < n ∧ t.1 ≠ t.2) : Same n L (srtTies (L.map mm)) := by
  refine ⟨srtTies_ok h0 h1 (by rw [List.length_map]; exact hl) fun t h => ?_, fun k => ?_, ?_⟩
  · obtain ⟨u, hu, rfl⟩ := List.mem_map.mp h
    obtain ⟨a1, a2, a3⟩ := ht u hu
    exact mm_ok a1 a2 a3
  · rw [cM_perm (srtTies_perm _), cM_map _ (Nat.le_refl _) fun t _ u _ => meets_mm t u]
  · rw [tM_perm (srtTies_perm _), tM_map fun t _ u _ => meets_mm t u]
theorem Same.trans {n : Nat} {l m k : List Tie} (h : Same n l m) (g : Same n m k) : Same n l k := ⟨g.ok, fun i => (g.cnt i).trans (h.cnt i), g.tot.trans h.tot⟩
theorem Same.full {n : Nat} {l m : List Tie} (h : Same n l m) : (fullP n m).length = if n % 2 = 0 then cM l (n / 2) else 0 := by
  rw [full_len, h.cnt]
/-! the ladder -/
def ladder (k : Nat) : List Tie := ((List.range k).map fun i => (i, i + k)) ++ ((List.range (k - 1)).map fun i => (i, i + 1)) ++ ((List.range (k - 1)).map fun i => (k + i, k + i + 1))
theorem ladder_tie : ∀ k ∈ [1, 2, 3, 4, 5], (∀ t ∈ ladder k, t.1 < 2 * k ∧ t.2 < 2 * k ∧ t.1 ≠ t.2) ∧ (ladder k).length ≤ 20 := by decide +kernel
theorem ladder_tM : ∀ k ∈ [1, 2, 3, 4, 5], tM (ladder k) = [2, 7, 22, 71, 228].getD (k - 1) 0 ∧ cM (ladder k) k = [1, 2, 3, 5, 8].getD (k - 1) 0 := by decide +kernel
theorem ints_list {k : Nat} {f g : Nat → Nat} : ((List.range k).map fun i => T.tup [.int (f i : Nat), .int (g i : Nat)]) = tiesT ((List.range k).map fun i => (f i, g i)) := by
  unfold tiesT
  rw [List.map_map]; rfl
theorem ladder_at1 : ∀ k ∈ [1, 2, 3, 4, 5], L2.atI [T.int 2, T.int 7, T.int 22, T.int 71, T.int 228] ((k : Nat) - 1 : Int) = some (.int (([2, 7, 22, 71, 228].getD (k - 1) 0 : Nat) : Int)) := fun k hk => by
  simp at hk
  rcases hk with rfl | rfl | rfl | rfl | rfl <;> rfl
theorem ladder_at2 : ∀ k ∈ [1, 2, 3, 4, 5], L2.atI [T.int 1, T.int 2, T.int 3, T.int 5, T.int 8] ((k : Nat) - 1 : Int) = some (.int (([1, 2, 3, 5, 8].getD (k - 1) 0 : Nat) : Int)) := fun k hk => by
  simp at hk
  rcases hk with rfl | rfl | rfl | rfl | rfl <;> rfl
theorem seq_hide {a b : WS} {P : PEnds} {τ : PSt} (h : ∀ b', b' = b → wSeq a b' P τ) : wSeq a b P τ := h b rfl
theorem p__law_ladder_right : ∀ c ts Pq, ts.length = 0 → s__law_ladder_right c ts Pq → w__law_ladder_right (PE1 Pq) (τ1 5 c ts) := by
  rintro c ts Pq _ ⟨rfl, hd, h⟩
  unfold w__law_ladder_right
  refine seq_hide fun b1 hb1 => ?_
  simp
  refine ⟨5, rfl, hd, by omega, by omega, fun r c1 hr hc1 => ?_⟩
  obtain ⟨k, hk⟩ : ∃ k, k = 1 + r := ⟨_, rfl⟩
  have hkc : (1 : Int) + (r : Int) = (k : Int) := by omega
  have hkm : k ∈ [1, 2, 3, 4, 5] := by
    have h1 : k = 1 ∨ k = 2 ∨ k = 3 ∨ k = 4 ∨ k = 5 := by omega
    simpa using h1
  have hk1 : 1 ≤ k := by omega
  have hk5 : k ≤ 5 := by omega
  have hsz : 4194304 ≤ sizeLine := by rw [sizeLine_eq]; decide
  have hkk : ((k : Int) - 1) = ((k - 1 : Nat) : Int) := by omega
  simp
  rw [hkc, hb1]
  refine seq_set (τ1 := [some (c1, .pn), some (.int (k : Nat), .sh), none, none, none]) (.lst (tiesT (ladder k))) .ow (fun R hR => ?_) (by simp) ?_
  · simp
    refine wLc_mapA0 (l := List.range k) (f := fun i : Nat => T.int (i : Nat)) (fun i => .tup [.int (i : Nat), .int ((i + k : Nat) : Int)]) (fun P hP => ?_) (by simp; omega) rfl (by simp) (fun i hi R hR => ?_) ?_
    · simp
      exact ⟨by omega, hP⟩
    · simp at hR ⊢
      exact hR
    · refine wLc_mapA0 (l := List.range (k - 1)) (f := fun i : Nat => T.int (i : Nat)) (fun i => .tup [.int (i : Nat), .int ((i + 1 : Nat) : Int)]) (fun P hP => ?_) (by simp; omega) rfl (by simp) (fun i hi R hR => ?_) ?_
      · simp
        first
          | exact ⟨⟨by omega, by omega⟩, hP⟩
          | exact ⟨by omega, by omega, hP⟩
      · simp at hR ⊢
        exact hR
      · simp
        refine ⟨by omega, ?_⟩
        refine wLc_mapA0 (l := List.range (k - 1)) (f := fun i : Nat => T.int (i : Nat)) (fun i => .tup [.int ((k + i : Nat) : Int), .int ((k + i + 1 : Nat) : Int)]) (fun P hP => ?_) (by simp; omega) rfl (by simp) (fun i hi R hR => ?_) ?_
        · simp
          first
          | exact ⟨⟨by omega, by omega⟩, hP⟩
          | exact ⟨by omega, by omega, hP⟩
        · simp at hR ⊢
          exact hR
        · simp
          refine ⟨by omega, ?_⟩
          have e : tiesT (ladder k) = (List.range k).map (fun i : Nat => T.tup [.int (i : Nat), .int ((i : Int) + (k : Int))]) ++ ((List.range (k - 1)).map (fun i : Nat => T.tup [.int (i : Nat), .int ((i : Int) + 1)]) ++ (List.range (k - 1)).map (fun i : Nat => T.tup [.int ((k : Int) + (i : Int)), .int ((k : Int) + (i : Int) + 1)])) := by
            unfold tiesT ladder
            rw [List.map_append, List.map_append, List.map_map, List.map_map, List.map_map, List.append_assoc]
            rfl
          rw [e] at hR
          exact hR
  · refine seq_hide fun b2 hb2 => ?_
    have hL := ladder_tie k hkm
    have S1 := web_ok (n := 2 * k) (by omega) (by omega) hL.2 hL.1
    simp
    refine ⟨.inl (.inl ⟨by omega, by omega⟩), 2 * k, ladder k, by simp, by have := hL.2; omega, 2 * k, _, rfl, hc1, by omega, by have := S1.ok.le; omega, fun t ht => by have := S1.ok.tie t ht; omega, fun vs c2 hp hc2 => ?_⟩
    have S2 := S1.trans (named_ok S1.ok hp)
    rw [hb2]
    simp
    refine ⟨2 * k, _, rfl, S2.ok, 2 * k, _, rfl, S2.ok, ?_⟩
    have hA := ladder_at1 k hkm
    have hB := ladder_at2 k hkm
    obtain ⟨g1, g2⟩ := ladder_tM k hkm
    have e1 : (fullP (2 * k) (srtTies (List.map (nmT vs) (srtTies (List.map mm (ladder k)))))).length = [1, 2, 3, 5, 8].getD (k - 1) 0 := by
      rw [S2.full, if_pos (by omega), ← g2]
      congr 1
      omega
    have e2 : ∀ L : List (List Nat), (L.map pT).length = L.length := fun L => List.length_map ..
    rw [S2.tot, g1]
    simp only [hA, hB, e2, srtP_len, e1, Option.map_some]
    refine ⟨by omega, by omega, ?_⟩
    have hs : ∀ a b : Nat, ∀ t ∈ [T.int (a : Nat), T.int (b : Nat)], sh 0 t := fun a b t ht => by
      simp at ht
      rcases ht with rfl | rfl <;> exact sh_int
    refine ⟨sh_tsh (d := 1) (sh_lst (hs _ _)), sh_tsh (d := 1) (sh_lst (hs _ _)), ?_⟩
    rw [teq_self (d := 1) (sh_lst (hs _ _))]
    exact h c2 hc2
end K44

set_option Elab.async false
set_option linter.all false
set_option maxRecDepth 100000
set_option maxHeartbeats 0
namespace K44
open PySem PySem.Spec PyProof.Rows L2 Z
theorem wLc_inv {α : Type} {f : α → T} {l : List α} {wi : WI} {g : WG} {el : WV} {vs : List Nat} {τ τ1 : PSt} {Q : T → Md → PSt → Prop} (hi : ∀ P : List T → PSt → Prop, P (l.map f) τ1 → wi τ P) (hl : l.length ≤ sizeLine)
    (Pv : Nat → List T → PSt → Prop) (pn : ∀ i acc τ, Pv i acc τ → npn τ vs) (h0 : Pv 0 [] τ1)
    (step : ∀ i x acc τ, l[i]? = some x → Pv i acc τ → g (f x) (wipeP τ vs) fun τ2 => el τ2 fun y τ4 => npn τ4 vs ∧ Pv (i + 1) (acc ++ [y]) (wipeP τ4 vs))
    (fin : ∀ acc τ, Pv l.length acc τ → Q (.lst acc) .ow (wipeP τ vs)) : wLc wi g wYes el vs τ Q := by
  refine hi _ ⟨by simpa using hl, Pv, pn, h0, fun i t acc τ' e h => ?_, fun acc τ' h => fin acc τ' (by simpa using h)⟩
  rw [List.getElem?_map] at e
  cases q : l[i]? with
  | none => rw [q] at e; cases e
  | some x =>
    rw [q] at e; cases e
    have := step i x acc τ' q h
    simpa only [wYes, if_true] using this
theorem wLc_bind {wi : WI} {g : WG} {c : WB} {el : WV} {vs : List Nat} {τ : PSt} {Q : T → Md → PSt → Prop} (h : wi τ fun ts τ1 => wLc (fun _ Q => Q ts τ1) g c el vs τ Q) : wLc wi g c el vs τ Q := h
def lotOf (k : Nat) (vs : List Nat) : List Tie := vs.zipIdx.map fun p => (p.2, k + p.1)
structure LotK (k : Nat) (A : List Tie) : Prop where
  len : A.length = k
  dis : A.Pairwise fun t u => meets t u = false
  lt : ∀ t ∈ A, t.1 < k ∧ k ≤ t.2 ∧ t.2 < 2 * k
theorem lotOf_ok {k : Nat} {vs : List Nat} (hp : vs.Perm (List.range k)) : LotK k (lotOf k vs) := by
  have hnd : vs.Nodup := hp.nodup_iff.mpr List.nodup_range
  have hl : vs.length = k := by rw [hp.length_eq]; simp
  have hv : ∀ x ∈ vs, x < k := fun x hx => List.mem_range.mp (hp.mem_iff.mp hx)
  have hlt : ∀ t ∈ lotOf k vs, t.1 < k ∧ k ≤ t.2 ∧ t.2 < 2 * k := fun t ht => by
    obtain ⟨p, hp', rfl⟩ := List.mem_map.mp ht
    obtain ⟨a1, a2, a3⟩ := List.mem_zipIdx hp'
    have : p.1 ∈ vs := by rw [a3]; exact List.getElem_mem _
    have := hv _ this
    show p.2 < k ∧ k ≤ k + p.1 ∧ k + p.1 < 2 * k
    omega
  refine ⟨by simp [lotOf, hl], ?_, hlt⟩
  rw [List.pairwise_iff_getElem]
  intro i j hi hj hij
  have b1 := hlt _ (List.getElem_mem hi)
  have b2 := hlt _ (List.getElem_mem hj)
  have hi' : i < vs.length := by simpa [lotOf] using hi
  have hj' : j < vs.length := by simpa [lotOf] using hj
  have hne := List.pairwise_iff_getElem.mp hnd i j hi' hj' hij
  have e1 : (lotOf k vs)[i] = (i, k + vs[i]) := by simp [lotOf]
  have e2 : (lotOf k vs)[j] = (j, k + vs[j]) := by simp [lotOf]
  rw [e1] at b1 ⊢
  rw [e2] at b2 ⊢
  unfold meets tou
  simp only [Bool.or_eq_false_iff, decide_eq_false_iff_not] at b1 b2 ⊢
  omega
theorem p__law_regular_right : ∀ c ts Pq, ts.length = 0 → s__law_regular_right c ts Pq → w__law_regular_right (PE1 Pq) (τ1 10 c ts) := by
  rintro c ts Pq _ ⟨rfl, hd, h⟩
  unfold w__law_regular_right
  refine seq_hide fun b1 hb1 => ?_
  simp
  refine ⟨4, rfl, hd, by omega, by omega, fun r c1 hr hc1 => ?_⟩
  obtain ⟨k, hk⟩ : ∃ k, k = 1 + r := ⟨_, rfl⟩
  have hkc : (1 : Int) + (r : Int) = (k : Int) := by omega
  have hk1 : 1 ≤ k := by omega
  have hk4 : k ≤ 4 := by omega
  have hsz : 4194304 ≤ sizeLine := by rw [sizeLine_eq]; decide
  simp
  rw [hkc, hb1]
  refine seq_hide fun b2 hb2 => ?_
  simp
  refine ⟨⟨by omega, by omega⟩, _, rfl, hc1, ?_, ?_, fun r2 c2 hr2 hc2 => ?_⟩
  · rcases (show k = 1 ∨ k = 2 ∨ k = 3 ∨ k = 4 by omega) with e | e | e | e <;> rw [e] <;> decide
  · rcases (show k = 1 ∨ k = 2 ∨ k = 3 ∨ k = 4 by omega) with e | e | e | e <;> rw [e] <;> decide
  obtain ⟨d, hd'⟩ : ∃ d, d = 1 + r2 := ⟨_, rfl⟩
  have hdc : (1 : Int) + (r2 : Int) = (d : Int) := by omega
  have hdk : d * k ≤ 20 ∧ d ≤ 4 ∧ 1 ≤ d := by
    rcases (show k = 1 ∨ k = 2 ∨ k = 3 ∨ k = 4 by omega) with e | e | e | e
    all_goals
      subst e
      simp at hr2
      omega
  simp
  rw [hdc, hb2]
  refine seq_hide fun b3 hb3 => ?_
  simp
  refine wLc_inv (l := List.range d) (f := fun i : Nat => T.int (i : Nat)) (τ1 := [some (c2, .pn), some (.int (k : Nat), .sh), some (.int (d : Nat), .sh), none, none, none, none, none, none, none]) (fun P hP => ?_) (by simp; omega)
    (fun i acc τ => ∃ (c : T) (L : List (List Tie)), Dice c ∧ L.length = i ∧ (∀ A ∈ L, LotK k A) ∧ acc = L.map (fun A => T.lst (tiesT A)) ∧ τ = [some (c, .pn), some (.int (k : Nat), .sh), some (.int (d : Nat), .sh), none, none, none, none, none, none, none])
    (fun i acc τ h => ?_) ⟨c2, [], hc2, rfl, fun _ h => (List.not_mem_nil h).elim, rfl, rfl⟩ ?_ ?_
  · simp
    exact ⟨by omega, hP⟩
  · obtain ⟨c, L, _, _, _, _, rfl⟩ := h
    simp
  · rintro i x acc τ e ⟨c, L, hc, hL, hA, rfl, rfl⟩
    simp
    refine wLc_bind ?_
    simp
    refine ⟨by unfold RgOk; omega, List.range k, by rw [rng_nats], hc, by simp; omega, fun vs c' hp hc' => ?_⟩
    have hvl : vs.length = k := by rw [hp.length_eq]; simp
    have hen : enumTs (natsT vs) = vs.zipIdx.map fun p => .tup [.int (p.2 : Nat), .int (p.1 : Nat)] := enumTs_map (f := fun x : Nat => T.int (x : Nat)) vs
    simp
    refine wLc_mapA (l := vs.zipIdx) (f := fun p : Nat × Nat => .tup [.int (p.2 : Nat), .int (p.1 : Nat)]) (τ1 := [some (c', .pn), some (.int (k : Nat), .sh), some (.int (d : Nat), .sh), none, none, none, some (.int (x : Nat), .sh), none, none, none]) (fun p => .tup [.int (p.2 : Nat), .int ((k + p.1 : Nat) : Int)]) (fun P hP => ?_) (by simp; omega) rfl (by simp) (fun p hp R hR => ?_) ?_
    · rw [hen]
      exact hP
    · simp at hR ⊢
      exact hR
    · simp
      have e5 : vs.zipIdx.map (fun p => T.tup [.int (p.2 : Nat), .int ((k : Int) + (p.1 : Nat))]) = tiesT (lotOf k vs) := by
        unfold tiesT lotOf
        rw [List.map_map]; rfl
      refine ⟨c', hc', L ++ [lotOf k vs], by simp [hL], fun A h => ?_, by simp [e5]⟩
      rcases List.mem_append.mp h with h | h
      · exact hA A h
      · have : A = lotOf k vs := by simpa using h
        subst this
        exact lotOf_ok hp
  · rintro acc τ ⟨c, L, hc, hL, hA, rfl, rfl⟩
    have hLL : L.length = d := by simpa using hL
    have hls : listsT (L.map fun A => T.lst (tiesT A)) = some (L.map tiesT) := by
      clear hL hA hLL
      induction L with
      | nil => rfl
      | cons A L ih => simp [listsT, ih]
    have hfl : (L.map tiesT).flatten = tiesT L.flatten := by
      unfold tiesT
      rw [List.map_flatten]
    have hsum : ∀ M : List (List Tie), (∀ A ∈ M, LotK k A) → (M.map (List.length ∘ tiesT)).sum = M.length * k ∧ M.flatten.length = M.length * k := fun M => by
      induction M with
      | nil => intro _; simp
      | cons A M ih =>
        intro hM
        obtain ⟨i1, i2⟩ := ih fun B hB => hM B (List.mem_cons_of_mem _ hB)
        have := (hM A (List.mem_cons_self ..)).len
        rw [List.map_cons, List.sum_cons, i1, List.flatten_cons, List.length_append, i2, List.length_cons, Nat.succ_mul]
        simp only [Function.comp, tiesT, List.length_map]
        omega
    obtain ⟨s1, s2⟩ := hsum L hA
    rw [hLL] at s1 s2
    simp [hls]
    rw [s1]
    refine ⟨by omega, ?_⟩
    rw [hfl, hb3]
    refine seq_hide fun b4 hb4 => ?_
    have hties : ∀ t ∈ L.flatten, t.1 < 2 * k ∧ t.2 < 2 * k ∧ t.1 ≠ t.2 := fun t ht => by
      obtain ⟨A, hAm, htA⟩ := List.mem_flatten.mp ht
      have := (hA A hAm).lt t htA
      omega
    have S1 := web_ok (n := 2 * k) (L := L.flatten) (by omega) (by omega) (by omega) hties
    simp
    refine ⟨.inl (.inl ⟨by omega, by omega⟩), 2 * k, L.flatten, by simp, by omega, 2 * k, _, rfl, hc, by omega, by have := S1.ok.le; omega, fun t ht => by have := S1.ok.tie t ht; omega, fun vs c' hp hc' => ?_⟩
    have S2 := S1.trans (named_ok S1.ok hp)
    obtain ⟨m, hm⟩ : ∃ m, m = srtTies (List.map (nmT vs) (srtTies (List.map mm L.flatten))) := ⟨_, rfl⟩
    rw [← hm] at S2 ⊢
    rw [hb4]
    simp
    refine ⟨2 * k, m, rfl, S2.ok.le, ?_⟩
    simp
    refine ⟨2 * k, m, rfl, S2.ok, ?_⟩
    have htm := tM_20 S2.ok.le
    have hlen : (srtP (allP m)).length = tM m := by rw [srtP_len, allP_len]
    simp [srtP_len]
    have hfull : (fullP (2 * k) m).length = cM L.flatten k := by
      rw [S2.full, if_pos (by omega)]
      congr 1
      omega
    have hlots : L.length ≤ cM L.flatten (k - 1 + 1) := cM_lots fun A hAm => ⟨by have := (hA A hAm).len; omega, (hA A hAm).dis⟩
    have hk11 : k - 1 + 1 = k := by omega
    rw [hk11] at hlots
    rw [if_pos (by omega)]
    refine ⟨2 * k, m, rfl, S2.ok, ?_⟩
    simp
    refine wLc_pureA (l := srtP (allP m)) (f := pT) (τ1 := [some (c', .pn), some (.int (k : Nat), .sh), some (.int (d : Nat), .sh), some (.lst (tiesT L.flatten), .sh), some (webT (2 * k) m, .sh), some (.lst ((srtP (allP m)).map pT), .sh), none, none, none, none]) (fun s => if s.length = k then some (pT s) else none) (fun P hP => ?_) (by omega) rfl (by simp) (fun s hs R hR => ?_) ?_
    · simp
      exact hP
    · simp [pT]
      by_cases e : s.length = k
      · rw [if_pos e] at hR
        rw [if_pos (by omega)]
        exact hR
      · rw [if_neg e] at hR
        rw [if_neg (by omega)]
        exact hR
    · have e1 : ∀ M : List (List Nat), (M.filterMap fun s => if s.length = k then some (pT s) else none).length = (M.filter fun s => decide (2 * s.length = 2 * k)).length := fun M => by
        induction M with
        | nil => rfl
        | cons s M ih =>
          rw [List.filterMap_cons, List.filter_cons]
          by_cases e : s.length = k
          · have e' : 2 * s.length = 2 * k := by omega
            simp only [e, if_true, e', decide_true, List.length_cons]
            simpa [e] using ih
          · have e' : ¬ 2 * s.length = 2 * k := by omega
            simp only [e, if_false, e', decide_false]
            simpa using ih
      have e2 : ((srtP (allP m)).filter fun s => decide (2 * s.length = 2 * k)).length = (fullP (2 * k) m).length := by
        rw [srtP_filter, srtP_len]; rfl
      simp [e1, e2, srtP_len]
      exact h c' hc'
end K44

set_option Elab.async false
set_option linter.all false
set_option maxRecDepth 100000
set_option maxHeartbeats 0
namespace K44
open PySem PySem.Spec PyProof.Rows L2 Z
/-! ### the known webs: kinds 0 to 3 by trial -/
def rowB (r : List Nat) (l : List Tie) : Bool := (List.range (max r.length (l.length + 1))).all (fun k => r.getD k 0 == cM l k) && (!r.isEmpty && !(r.getD (r.length - 1) 0 == 0))
theorem Row.ofB {r : List Nat} {l : List Tie} (h : rowB r l = true) : Row r (cM l) := by
  unfold rowB at h
  simp only [Bool.and_eq_true, List.all_eq_true, List.mem_range, beq_iff_eq, Bool.not_eq_true', List.isEmpty_eq_false_iff, beq_eq_false_iff_ne] at h
  obtain ⟨h1, h2, h3⟩ := h
  have hat : ∀ k, r.getD k 0 = cM l k := fun k => by
    by_cases c : k < max r.length (l.length + 1)
    · exact h1 k c
    · rw [cM_big k l (by omega), List.getD_eq_getElem?_getD, List.getElem?_eq_none (by omega)]; rfl
  exact Row.of hat h2 (by rw [← hat]; exact h3)
def circle (n : Nat) : List Tie := (List.range n).map fun i => (i, (i + 1) % n)
def circleDue (n : Nat) : List Int := (List.range (n / 2 + 1)).map fun j => (n : Int) * lawChoose (n - j) j / ((n : Int) - (j : Int))
def path (n : Nat) : List Tie := (List.range (n - 1)).map fun i => (i, i + 1)
def pathDue (n : Nat) : List Int := (List.range (n / 2 + 1)).map fun j => lawChoose (n - j) j
def whole (n : Nat) : List Tie := ((List.range n).map fun i => (List.range (n - (i + 1))).map fun j => ((i, i + 1 + j) : Tie)).flatten
def wholeDue (n : Nat) : List Int := (List.range (n / 2 + 1)).map fun j => lawChoose n (2 * j) * lawFactors 1 j 2
def sides (a b : Nat) : List Tie := ((List.range a).map fun i => (List.range b).map fun j => ((i, a + j) : Tie)).flatten
def sidesDue (a b : Nat) : List Int := (List.range (min a b + 1)).map fun j => lawChoose a j * lawChoose b j * lawFactors 1 j 1
def tiesB (n : Nat) (l : List Tie) : Bool := decide (1 ≤ n) && decide (n ≤ 10) && decide (l.length ≤ 20) && l.all fun t => decide (t.1 < n) && decide (t.2 < n) && !decide (t.1 = t.2)
def dueB (l : List Tie) (d : List Int) : Bool := d.all (fun x => decide (0 ≤ x)) && rowB (d.map Int.toNat) l
theorem circle_ok : ((List.range 8).map fun r => (tiesB (3 + r) (circle (3 + r)) && dueB (circle (3 + r)) (circleDue (3 + r)))).all id = true := by decide +kernel
theorem path_ok : ((List.range 10).map fun r => (tiesB (1 + r) (path (1 + r)) && dueB (path (1 + r)) (pathDue (1 + r)))).all id = true := by decide +kernel
theorem whole_ok : ((List.range 6).map fun r => (tiesB (1 + r) (whole (1 + r)) && dueB (whole (1 + r)) (wholeDue (1 + r)))).all id = true := by decide +kernel
theorem sides_ok : ((List.range 5).map fun r => (List.range (min 5 (20 / (1 + r)))).all fun s => (tiesB (2 + r + s) (sides (1 + r) (1 + s)) && dueB (sides (1 + r) (1 + s)) (sidesDue (1 + r) (1 + s)))).all id = true := by decide +kernel
end K44

set_option Elab.async false
set_option linter.all false
set_option maxRecDepth 100000
set_option maxHeartbeats 0
namespace K44
open PySem PySem.Spec PyProof.Rows L2 Z
/-! ### path with multiplicities, star -/
def mpath : List Nat → List Tie
  | [] => []
  | m :: ms => List.replicate m (ms.length, ms.length + 1) ++ mpath ms
theorem mpath_lt : ∀ (ms : List Nat), ∀ t ∈ mpath ms, t.2 = t.1 + 1 ∧ t.2 ≤ ms.length
  | [], _, h => by cases h
  | m :: ms, t, h => by
    rcases List.mem_append.mp h with h | h
    · have := (List.mem_replicate.mp h).2
      subst this
      exact ⟨rfl, by simp⟩
    · have := mpath_lt ms t h
      refine ⟨this.1, ?_⟩
      rw [List.length_cons]; omega
theorem mpath_away (m : Nat) (ms : List Nat) : away (ms.length + 1, ms.length + 2) (mpath (m :: ms)) = mpath ms := by
  unfold away
  show (List.replicate m (ms.length, ms.length + 1) ++ mpath ms).filter _ = _
  rw [List.filter_append]
  have e1 : (List.replicate m ((ms.length, ms.length + 1) : Tie)).filter (fun u => !meets (ms.length + 1, ms.length + 2) u) = [] := by
    rw [List.filter_eq_nil_iff]
    intro t ht
    have := (List.mem_replicate.mp ht).2
    subst this
    unfold meets tou
    simp
  have e2 : (mpath ms).filter (fun u => !meets (ms.length + 1, ms.length + 2) u) = mpath ms := by
    rw [List.filter_eq_self]
    intro t ht
    have := mpath_lt ms t ht
    unfold meets tou
    simp
    omega
  rw [e1, e2]; rfl
theorem sum_rep {α : Type} (f : α → Nat) (x : α) (m : Nat) : ((List.replicate m x).map f).sum = m * f x := by
  rw [List.map_replicate, List.sum_replicate_nat]
theorem mpath_cM (m p : Nat) (ms : List Nat) (k : Nat) : cM (mpath (m :: p :: ms)) (k + 1) = cM (mpath (p :: ms)) (k + 1) + m * cM (mpath ms) k := by
  show cM (List.replicate m ((p :: ms).length, (p :: ms).length + 1) ++ mpath (p :: ms)) (k + 1) = _
  rw [cM_star (x := (p :: ms).length + 1) fun t ht => by
    have := (List.mem_replicate.mp ht).2
    subst this
    unfold tou
    simp]
  congr 1
  rw [sum_rep]
  congr 1
  have := mpath_away p ms
  rw [List.length_cons]
  rw [this]
theorem mpath_cM1 (m : Nat) (ms : List Nat) (k : Nat) : cM (mpath (m :: ms)) (k + 1) = cM (mpath ms) (k + 1) + m * cM (mpath (ms.drop 1)) k := by
  cases ms with
  | cons p ms => exact mpath_cM m p ms k
  | nil =>
    show cM (List.replicate m ((([] : List Nat).length, ([] : List Nat).length + 1) : Tie) ++ []) (k + 1) = _
    rw [cM_star (x := 1) fun t ht => by
      have := (List.mem_replicate.mp ht).2
      subst this
      unfold tou
      simp]
    congr 1
    rw [sum_rep]
    rfl
theorem Row.scale {r : List Nat} {f : Nat → Nat} (h : Row r f) {m : Nat} (hm : 1 ≤ m) : Row (r.map fun x => m * x) fun k => m * f k := by
  have hne := h.ne
  have hl := List.length_pos_iff.mpr hne
  refine Row.of (fun k => ?_) (by simpa using hne) ?_
  · rw [← h.at_ k, List.getD_eq_getElem?_getD, List.getD_eq_getElem?_getD, List.getElem?_map]
    cases r[k]? <;> simp
  · rw [List.length_map]
    have := h.top
    exact Nat.mul_ne_zero (by omega) this
theorem mpath_row {newer older ms : List Nat} {m : Nat} (hm : 1 ≤ m) (h1 : Row newer (cM (mpath ms))) (h2 : Row older (cM (mpath (ms.drop 1)))) : Row (addR newer (0 :: older.map fun x => m * x)) (cM (mpath (m :: ms))) := by
  refine (h1.add (h2.scale hm).shift).congr fun k => ?_
  cases k with
  | zero =>
    have e : ∀ l : List Tie, cM l 0 = 1 := fun l => cF_zero _ _
    rw [e, e]; rfl
  | succ k => exact (mpath_cM1 m ms k).symm
def ups (ms : List Nat) : List Tie := (ms.zipIdx.map fun p => List.replicate p.1 ((p.2, p.2 + 1) : Tie)).flatten
def rays (ms : List Nat) : List Tie := (ms.zipIdx.map fun p => List.replicate p.1 ((0, p.2 + 1) : Tie)).flatten
theorem ups_perm (ms : List Nat) : (ups ms).Perm (mpath ms.reverse) := by
  have key : ∀ n (ms : List Nat), ms.length = n → (ups ms).Perm (mpath ms.reverse) := fun n => by
    induction n with
    | zero =>
      intro ms h
      have : ms = [] := List.length_eq_zero_iff.mp h
      subst this
      exact List.Perm.refl _
    | succ n ih =>
      intro ms h
      obtain ⟨ms0, m, rfl⟩ : ∃ ms0 m, ms = ms0 ++ [m] := ⟨ms.dropLast, ms.getLast (by intro e; subst e; cases h), (List.dropLast_concat_getLast _).symm⟩
      have h0 : ms0.length = n := by simpa using h
      rw [List.reverse_append]
      show (ups (ms0 ++ [m])).Perm (List.replicate m (ms0.reverse.length, ms0.reverse.length + 1) ++ mpath ms0.reverse)
      have e : ups (ms0 ++ [m]) = ups ms0 ++ List.replicate m (ms0.length, ms0.length + 1) := by
        unfold ups
        rw [List.zipIdx_append, List.map_append, List.flatten_append]
        simp
      rw [e, List.length_reverse]
      exact ((ih ms0 h0).append_right _).trans List.perm_append_comm
  exact key _ ms rfl
theorem star_row {l : List Tie} (h : ∀ t ∈ l, tou 0 t = true) (hl : l ≠ []) : Row [1, l.length] (cM l) := by
  have h1 : ∀ k, cM l (k + 1) = if k = 0 then l.length else 0 := fun k => by
    have := cM_star (x := 0) (A := l) (B := []) (k := k) h
    rw [List.append_nil] at this
    rw [this]
    have e : ∀ t : Tie, cM (away t []) k = if k = 0 then 1 else 0 := fun t => by cases k <;> rfl
    have e2 : (l.map fun t => cM (away t []) k) = l.map fun t => if k = 0 then 1 else 0 := List.map_congr_left fun t _ => e t
    rw [e2]
    have e3 : cM ([] : List Tie) (k + 1) = 0 := rfl
    rw [e3, Nat.zero_add]
    clear this h hl e2
    induction l with
    | nil => simp
    | cons t l ih =>
      rw [List.map_cons, List.sum_cons, ih]
      by_cases hk : k = 0
      · simp [hk]; omega
      · simp [hk]
  have hp := List.length_pos_iff.mpr hl
  refine Row.of (fun k => ?_) (List.cons_ne_nil _ _) ?_
  · match k with
    | 0 => exact (cF_zero _ _).symm
    | 1 => rw [h1]; rfl
    | k + 2 => rw [h1]; rfl
  · show cM l 1 ≠ 0
    rw [h1]
    simp; exact hl
end K44

set_option Elab.async false
set_option linter.all false
set_option maxRecDepth 100000
set_option maxHeartbeats 0
namespace K44
open PySem PySem.Spec PyProof.Rows L2 Z
def wK4 : WS := (wSeq (wSet 2 (wOp oAdd [(.ex (wC (.int 2))), (.ex (wSh (wCall1 1 0 s__law_roll [.one (wC (.int 5))])))])) (wSeq (wSet 9 (wLc (wiRng1 (wSh (wOp oSub [(.sl 2), (.ex (wC (.int 1)))]))) (wgNm 10) wYes (wSh (wOp oAdd [(.ex (wC (.int 1))), (.ex (wSh (wCall1 1 0 s__law_roll [.one (wC (.int 4))])))])) [10])) (wSeq (wPar 5 6 (wLst [.one (wC (.int 1))]) (wLst [.one (wC (.int 1))])) (wSeq (wFor (wiSeq (wNm 9)) (wgNm 7) (wSeq (wSet 8 (wOp oAdd [(.ex (wSh (wLst [.one (wC (.int 0))]))), (.ex (wSh (wLc (wiSeq (wNm 5)) (wgNm 14) wYes (wSh (wOp oMul [(.sl 7), (.sl 14)])) [14])))])) (wPar 5 6 (wUn (wNm 6)) (wLc (wiRng1 (wSh (wOp oMax [(.ex (wSh (wOp oLen [(.sl 6)]))), (.ex (wSh (wOp oLen [(.sl 8)])))]))) (wgNm 15) wYes (wSh (wOp oAdd [(.ex (wSh (wIf (wTst (wOp oLt [(.sl 15), (.ex (wSh (wOp oLen [(.sl 6)])))])) (wOp oIx [(.sl 6), (.sl 15)]) (wUn (wC (.int 0)))))), (.ex (wSh (wIf (wTst (wOp oLt [(.sl 15), (.ex (wSh (wOp oLen [(.sl 8)])))])) (wOp oIx [(.sl 8), (.sl 15)]) (wUn (wC (.int 0))))))])) [15])))) (wRet (wTup [.one (wSh (wCall 2 s__law_web [.one (wNm 2), .one (wSh (wSumL (wSh (wLc (wiEnum (wNm 9)) (wgTup 2 (wgCons (wgNm 10) (wgCons (wgNm 7) wgNil))) wYes (wSh (wOp oMul [(.ex (wSh (wLst [.one (wSh (wTup [.one (wNm 10), .one (wSh (wOp oAdd [(.sl 10), (.ex (wC (.int 1)))]))]))]))), (.sl 7)])) [7, 10])) (wSh (wLst []))))])), .one (wNm 6)]))))))
def wK5 : WS := (wSeq (wSet 9 (wLc (wiRng1 (wSh (wOp oAdd [(.ex (wC (.int 1))), (.ex (wSh (wCall1 1 0 s__law_roll [.one (wC (.int 6))])))]))) (wgNm 10) wYes (wSh (wOp oAdd [(.ex (wC (.int 1))), (.ex (wSh (wCall1 1 0 s__law_roll [.one (wC (.int 3))])))])) [10])) (wRet (wTup [.one (wSh (wCall 2 s__law_web [.one (wSh (wOp oAdd [(.ex (wSh (wOp oLen [(.sl 9)]))), (.ex (wC (.int 1)))])), .one (wSh (wSumL (wSh (wLc (wiEnum (wNm 9)) (wgTup 2 (wgCons (wgNm 10) (wgCons (wgNm 7) wgNil))) wYes (wSh (wOp oMul [(.ex (wSh (wLst [.one (wSh (wTup [.one (wC (.int 0)), .one (wSh (wOp oAdd [(.sl 10), (.ex (wC (.int 1)))]))]))]))), (.sl 7)])) [7, 10])) (wSh (wLst []))))])), .one (wSh (wLst [.one (wC (.int 1)), .one (wSh (wOp oSum [(.sl 9)]))]))])))
def wK45 : WS := (wSeq (wIfS (wTst (wOp oEq [(.sl 1), (.ex (wC (.int 4)))])) wK4 wNx) wK5)
theorem wLc_mapW {α : Type} {f : α → T} {l : List α} {wi : WI} {g : WG} {el : WV} {vs : List Nat} {τ τ1 τ2 : PSt} {Q : T → Md → PSt → Prop} (F : α → T) (hi : ∀ P : List T → PSt → Prop, P (l.map f) τ1 → wi τ P) (hl : l.length ≤ sizeLine) (hw : wipeP τ1 vs = τ2) (hw2 : wipeP τ2 vs = τ2) (hn1 : npn τ1 vs) (hn : npn τ2 vs)
    (step : ∀ x ∈ l, ∀ R : T → PSt → Prop, R (F x) τ2 → g (f x) τ2 fun τ3 => el τ3 fun y τ4 => npn τ4 vs ∧ R y (wipeP τ4 vs))
    (fin : Q (.lst (l.map F)) .ow τ2) : wLc wi g wYes el vs τ Q := by
  refine wLc_inv hi hl (fun i acc τ' => (τ' = τ1 ∨ τ' = τ2) ∧ acc = (l.take i).map F) (fun i acc τ' h => ?_) ⟨.inl rfl, by simp⟩ ?_ ?_
  · rcases h.1 with e | e <;> rw [e] <;> assumption
  · rintro i x acc τ' e ⟨h, rfl⟩
    have hwt : wipeP τ' vs = τ2 := by rcases h with e | e <;> rw [e] <;> assumption
    rw [hwt]
    refine step x (List.mem_of_getElem? e) (fun y τ'' => (τ'' = τ1 ∨ τ'' = τ2) ∧ (l.take i).map F ++ [y] = (l.take (i + 1)).map F) ⟨.inr rfl, ?_⟩
    rw [take_succ_get e, List.map_append]; rfl
  · rintro acc τ' ⟨h, rfl⟩
    have hwt : wipeP τ' vs = τ2 := by rcases h with e | e <;> rw [e] <;> assumption
    rw [hwt, List.take_length]
    exact fin
theorem mpath_len : ∀ (ms : List Nat) (b : Nat), (∀ m ∈ ms, m ≤ b) → (mpath ms).length ≤ b * ms.length
  | [], _, _ => by simp [mpath]
  | m :: ms, b, h => by
    have := mpath_len ms b fun x hx => h x (List.mem_cons_of_mem _ hx)
    have := h m (List.mem_cons_self ..)
    show (List.replicate m _ ++ mpath ms).length ≤ _
    rw [List.length_append, List.length_replicate, List.length_cons, Nat.mul_succ]
    omega
theorem rays_len (ms : List Nat) : (rays ms).length = ms.sum := by
  unfold rays
  rw [List.length_flatten, List.map_map]
  have e : (List.length ∘ fun p : Nat × Nat => List.replicate p.1 ((0, p.2 + 1) : Tie)) = Prod.fst := by
    funext p; simp
  rw [e, List.zipIdx_map_fst]
theorem sum_le_mul : ∀ (ms : List Nat) (b : Nat), (∀ m ∈ ms, m ≤ b) → ms.sum ≤ b * ms.length
  | [], _, _ => by simp
  | m :: ms, b, h => by
    have := sum_le_mul ms b fun x hx => h x (List.mem_cons_of_mem _ hx)
    have := h m (List.mem_cons_self ..)
    rw [List.sum_cons, List.length_cons, Nat.mul_succ]
    omega
theorem sum_nats : ∀ ms : List Nat, (ms.map fun x : Nat => (x : Int)).sum = ((ms.sum : Nat) : Int)
  | [] => rfl
  | m :: ms => by rw [List.map_cons, List.sum_cons, List.sum_cons, sum_nats ms]; omega
theorem listsT_ties : ∀ L : List (List Tie), listsT (L.map fun A => T.lst (tiesT A)) = some (L.map tiesT)
  | [] => rfl
  | A :: L => by simp [listsT, listsT_ties L]
theorem flat_ties (L : List (List Tie)) : (L.map tiesT).flatten = tiesT L.flatten := by
  unfold tiesT
  rw [List.map_flatten]
theorem reps_ties (f : Nat × Nat → Tie) (l : List (Nat × Nat)) : ((l.map fun p => T.lst (List.replicate p.1 (tieT (f p))))) = (l.map fun p => List.replicate p.1 (f p)).map fun A => T.lst (tiesT A) := by
  rw [List.map_map]
  refine List.map_congr_left fun p _ => ?_
  simp [Function.comp, tiesT, List.map_replicate]
theorem wK_often {c : T} {n b : Nat} {B : Int} (hB : B = (b : Nat)) {τ : PSt} {Q : T → Md → PSt → Prop} {wi : WI} (hb : 1 ≤ b) (hb2 : b ≤ 10) (hn : n ≤ 1000) (hc : Dice c) (s1 s2 : Option (T × Md)) (hs1 : np s1) (hs2 : np s2)
    (hi : ∀ (P : List T → PSt → Prop), P ((List.range n).map fun i : Nat => T.int (i : Nat)) [some (c, .pn), s1, s2, none, none, none, none, none, none, none, none, none, none, none, none, none] → wi τ P)
    (fin : ∀ c' ms, Dice c' → ms.length = n → (∀ m ∈ ms, 1 ≤ m ∧ m ≤ b) → Q (.lst (natsT ms)) .ow [some (c', .pn), s1, s2, none, none, none, none, none, none, none, none, none, none, none, none, none]) :
    wLc wi (wgNm 10) wYes (wSh (wOp oAdd [(.ex (wC (.int 1))), (.ex (wSh (wCall1 1 0 s__law_roll [.one (wC (.int B))])))])) [10] τ Q := by
  subst hB
  refine wLc_inv (l := List.range n) (f := fun i : Nat => T.int (i : Nat)) hi (by have := sz n; simpa using this)
    (fun i acc τ => ∃ (c : T) (ms : List Nat), Dice c ∧ ms.length = i ∧ (∀ m ∈ ms, 1 ≤ m ∧ m ≤ b) ∧ acc = natsT ms ∧ τ = [some (c, .pn), s1, s2, none, none, none, none, none, none, none, none, none, none, none, none, none])
    (fun i acc τ h => ?_) ⟨c, [], hc, rfl, fun _ h => (List.not_mem_nil h).elim, rfl, rfl⟩ ?_ ?_
  · obtain ⟨c, ms, _, _, _, _, rfl⟩ := h
    simp
  · rintro i x acc τ e ⟨c, ms, hc, hl, hm, rfl, rfl⟩
    simp
    refine ⟨b, rfl, hc, by omega, by omega, fun r c' hr hc' => ?_⟩
    simp
    refine ⟨c', hc', ms ++ [1 + r], by simp [hl], fun m h => ?_, ?_, rfl⟩
    · rcases List.mem_append.mp h with h | h
      · exact hm m h
      · have : m = 1 + r := by simpa using h
        omega
    · rw [natsT_app]; simp [natsT]
  · rintro acc τ ⟨c, ms, hc, hl, hm, rfl, rfl⟩
    simpa using fin c ms hc (by simpa using hl) hm
theorem kn5 {c : T} (hc : Dice c) {Pq : T → Md → T → Prop} {k : Int} (h : ∀ (n : Nat) (l : List Tie) (due : List Nat) c', WebOk n l → Row due (cM l) → Dice c' → Pq (.tup [webT n l, rowT due]) .sh c') :
    wK5 (PE1 Pq) [some (c, .pn), some (.int k, .sh), none, none, none, none, none, none, none, none, none, none, none, none, none, none] := by
  have hsz : 4194304 ≤ sizeLine := by rw [sizeLine_eq]; decide
  unfold wK5
  refine seq_hide fun b1 hb1 => ?_
  simp only [wSeq, wSet]
  refine wLc_bind ?_
  simp
  refine ⟨6, rfl, hc, by omega, by omega, fun r c1 hr hc1 => ?_⟩
  have e1 : ((1 : Int) + (r : Int)).toNat = 1 + r := by omega
  simp [e1]
  refine ⟨by omega, by omega, ?_⟩
  refine wK_often (n := 1 + r) (b := 3) (c := c1) rfl (by omega) (by omega) (by omega) hc1 (some (.int k, .sh)) none (by simp) (by simp) (fun P hP => hP) fun c2 ms hc2 hl hm => ?_
  simp
  rw [hb1]
  clear hb1 b1
  simp
  refine wLc_mapA (l := ms.zipIdx) (f := fun p : Nat × Nat => .tup [.int (p.2 : Nat), .int (p.1 : Nat)]) (τ1 := [some (c2, .pn), some (.int k, .sh), none, none, none, none, none, none, none, some (.lst (natsT ms), .sh), none, none, none, none, none, none]) (fun p => .lst (List.replicate p.1 (tieT (0, p.2 + 1)))) (fun P hP => ?_) (by simp; omega) rfl (by simp) (fun p hp R hR => ?_) ?_
  · have hen : enumTs (natsT ms) = ms.zipIdx.map fun p => .tup [.int (p.2 : Nat), .int (p.1 : Nat)] := enumTs_map (f := fun x : Nat => T.int (x : Nat)) ms
    simp
    rw [hen]
    exact hP
  · have hp1 : p.1 ∈ ms := by
      obtain ⟨a1, a2, a3⟩ := List.mem_zipIdx hp
      rw [a3]; exact List.getElem_mem _
    have := hm _ hp1
    simp [tieT] at hR ⊢
    exact ⟨by omega, by omega, hR⟩
  · rw [reps_ties (fun p => (0, p.2 + 1)) ms.zipIdx]
    have hls := listsT_ties (ms.zipIdx.map fun p => List.replicate p.1 ((0, p.2 + 1) : Tie))
    have hfl := flat_ties (ms.zipIdx.map fun p => List.replicate p.1 ((0, p.2 + 1) : Tie))
    have hww : (ms.zipIdx.map fun p => List.replicate p.1 ((0, p.2 + 1) : Tie)).flatten = rays ms := rfl
    rw [hww] at hfl
    have hle := rays_len ms
    have hsm := sum_le_mul ms 3 fun m h => (hm m h).2
    have hml : 1 ≤ ms.length := by omega
    have htl : (tiesT (rays ms)).length = (rays ms).length := by simp [tiesT]
    simp only [hls, hfl, ← List.length_flatten, List.nil_append]
    simp [htl, intsT_nats, sum_nats]
    refine ⟨by omega, ms.length + 1, rays ms, by simp, by omega, ?_⟩
    have hne : rays ms ≠ [] := fun e => by
      have h0 : ms.sum = 0 := by rw [← hle, e]; rfl
      obtain ⟨m, ms', rfl⟩ : ∃ m ms', ms = m :: ms' := by cases ms with | nil => simp at hml | cons m ms' => exact ⟨m, ms', rfl⟩
      have := (hm m (List.mem_cons_self ..)).1
      rw [List.sum_cons] at h0
      omega
    have hmem : ∀ t ∈ rays ms, t.1 = 0 ∧ 1 ≤ t.2 ∧ t.2 ≤ ms.length := fun t ht => by
      obtain ⟨A, hA, htA⟩ := List.mem_flatten.mp ht
      obtain ⟨p, hp, rfl⟩ := List.mem_map.mp hA
      have := (List.mem_replicate.mp htA).2
      subst this
      obtain ⟨a1, a2, a3⟩ := List.mem_zipIdx hp
      exact ⟨rfl, by show 1 ≤ p.2 + 1; omega, by show p.2 + 1 ≤ _; omega⟩
    have S := web_ok (n := ms.length + 1) (L := rays ms) (by omega) (by omega) (by omega) fun t ht => by
      have := hmem t ht
      omega
    have R1 := star_row (l := rays ms) (fun t ht => by simp [tou, (hmem t ht).1]) hne
    have := h (ms.length + 1) _ [1, (rays ms).length] c2 S.ok (R1.congr fun k => (S.cnt k).symm) hc2
    rw [hle] at this
    exact this
theorem kn4 {c : T} (hc : Dice c) {Pq : T → Md → T → Prop} {k : Int} (h : ∀ (n : Nat) (l : List Tie) (due : List Nat) c', WebOk n l → Row due (cM l) → Dice c' → Pq (.tup [webT n l, rowT due]) .sh c') :
    wK4 (PE1 Pq) [some (c, .pn), some (.int k, .sh), none, none, none, none, none, none, none, none, none, none, none, none, none, none] := by
  have hsz : 4194304 ≤ sizeLine := by rw [sizeLine_eq]; decide
  unfold wK4
  refine seq_hide fun b1 hb1 => ?_
  simp
  refine ⟨5, rfl, hc, by omega, by omega, fun r c1 hr hc1 => ?_⟩
  obtain ⟨N, hN⟩ : ∃ N, N = 2 + r := ⟨_, rfl⟩
  have hnc : (2 : Int) + (r : Int) = (N : Int) := by omega
  simp
  rw [hnc, hb1]
  clear hb1 b1
  refine seq_hide fun b2 hb2 => ?_
  simp
  refine wK_often (n := N - 1) (b := 4) (c := c1) rfl (by omega) (by omega) (by omega) hc1 (some (.int k, .sh)) (some (.int (N : Int), .sh)) (by simp) (by simp) (fun P hP => ?_) fun c2 ms hc2 hl hm => ?_
  · have e2 : ((N : Int) - 1).toNat = N - 1 := by omega
    simp [e2]
    first | exact ⟨by omega, hP⟩ | exact ⟨by omega, by omega, hP⟩ | exact ⟨⟨by omega, by omega⟩, hP⟩
  rw [hb2]
  clear hb2 b2
  refine ⟨trivial, ?_⟩
  refine seq_hide fun b3 hb3 => ?_
  simp
  rw [hb3]
  clear hb3 b3
  refine seq_hide fun b4 hb4 => ?_
  refine wFor_bind ?_
  simp
  obtain ⟨J, hJ⟩ : ∃ J : Nat → PSt → Prop, J = fun i τ => ∃ (older newer : List Nat) (m5 : Md) (u7 u8 : Option (T × Md)), (m5 = .sh ∨ m5 = .ow) ∧ np u7 ∧ np u8 ∧ older.length ≤ i + 1 ∧ newer.length ≤ i + 1 ∧ Row newer (cM (mpath (ms.take i).reverse)) ∧ Row older (cM (mpath ((ms.take i).reverse.drop 1))) ∧
      τ = [some (c2, .pn), some (.int k, .sh), some (.int (N : Int), .sh), none, none, some (rowT older, m5), some (rowT newer, .ow), u7, u8, some (.lst (natsT ms), .sh), none, none, none, none, none, none] := ⟨_, rfl⟩
  refine wFor_map (l := ms) (f := fun m : Nat => T.int (m : Nat)) (τ1 := [some (c2, .pn), some (.int k, .sh), some (.int (N : Int), .sh), none, none, some (rowT [1], .ow), some (rowT [1], .ow), none, none, some (.lst (natsT ms), .sh), none, none, none, none, none, none]) (fun Q hQ => ?_) J ?_ ?_ ?_
  · exact hQ
  · rw [hJ]
    exact ⟨[1], [1], .ow, none, none, .inr rfl, trivial, trivial, by simp, by simp, Row.one, Row.one, rfl⟩
  · intro i m τ e q
    rw [hJ] at q
    obtain ⟨older, newer, m5, u7, u8, hm5, h7, h8, ho, hn', rn, ro, rfl⟩ := q
    have hmm := hm m (List.mem_of_getElem? e)
    have hi : i < ms.length := (List.getElem?_eq_some_iff.mp e).1
    refine ⟨by simp [h7], ?_⟩
    obtain ⟨more, hmore⟩ : ∃ more, more = 0 :: older.map (fun x => m * x) := ⟨_, rfl⟩
    refine seq_set (τ1 := [some (c2, .pn), some (.int k, .sh), some (.int (N : Int), .sh), none, none, some (rowT older, .sh), some (rowT newer, .ow), some (.int (m : Nat), .sh), u8, some (.lst (natsT ms), .sh), none, none, none, none, none, none]) (.lst (natsT more)) .ow (fun R hR => ?_) (by simp [h8]) ?_
    · simp
      refine wLc_mapA (l := older) (f := fun x : Nat => T.int (x : Nat)) (τ1 := [some (c2, .pn), some (.int k, .sh), some (.int (N : Int), .sh), none, none, some (rowT older, .sh), some (rowT newer, .ow), some (.int (m : Nat), .sh), u8, some (.lst (natsT ms), .sh), none, none, none, none, none, none]) (fun x => .int ((m * x : Nat) : Int)) (fun P hP => ?_) (by omega) rfl (by simp) (fun x hx R hR => ?_) ?_
      · refine wNm_any (i := 5) rfl hm5 ?_
        exact hP
      · simp at hR ⊢
        exact ⟨.inl (.inl (by omega)), hR⟩
      · have e1 : T.lst (natsT more) = .lst (.int 0 :: older.map fun x => .int ((m * x : Nat) : Int)) := by
          rw [hmore]; simp [natsT]
        rw [e1] at hR
        simp at hR ⊢
        exact ⟨by omega, hR⟩
    · have hml : more.length ≤ i + 2 := by rw [hmore]; simp; omega
      simp
      refine wLc_mapA0 (l := List.range (max newer.length more.length)) (f := fun i : Nat => T.int (i : Nat)) (fun a => .int ((newer.getD a 0 + more.getD a 0 : Nat) : Int)) (fun P hP => ?_) (by simp; omega) rfl (by simp) (fun a ha R hR => ?_) ?_
      · have em : (if newer.length < more.length then (more.length : Int) else (newer.length : Int)) = ((max newer.length more.length : Nat) : Int) := by split <;> omega
        simp [rowT, em]
        exact ⟨by omega, hP⟩
      · simp [rowT] at hR ⊢
        have z0 : ∀ {z : List Nat}, ¬ a < z.length → z[a]?.getD 0 = 0 := fun {z} h => by rw [List.getElem?_eq_none (by omega)]; rfl
        by_cases c1 : a < newer.length
        · by_cases c2 : a < more.length
          · simp only [c1, c2, if_true, atI_at (natsT_get c1), atI_at (natsT_get c2)]
            simpa using hR
          · rw [z0 c2] at hR
            simp only [c1, c2, if_true, if_false, atI_at (natsT_get c1)]
            simpa using hR
        · rw [z0 c1] at hR
          by_cases c2 : a < more.length
          · simp only [c1, c2, if_true, if_false, atI_at (natsT_get c2)]
            simpa using hR
          · rw [z0 c2] at hR
            simp only [c1, c2, if_false]
            simpa using hR
      · have e2 : (List.range (max newer.length more.length)).map (fun a => T.int ((newer.getD a 0 + more.getD a 0 : Nat) : Int)) = natsT (addR newer more) := by
          unfold natsT addR
          rw [List.map_map]; rfl
        rw [e2]
        have e3 : (ms.take (i + 1)).reverse = m :: (ms.take i).reverse := by
          rw [take_succ_get e, List.reverse_append]; rfl
        have hR := mpath_row hmm.1 rn ro
        have hal : (addR newer more).length = max newer.length more.length := by simp [addR]
        simp
        rw [hJ]
        refine ⟨newer, addR newer more, .sh, some (.int m, .sh), some (.lst (natsT more), .ow), .inl rfl, trivial, trivial, by omega, by omega, ?_, ?_, rfl⟩
        · rw [e3, hmore]; exact hR
        · rw [e3]; exact rn
  · intro τ q
    rw [hJ] at q
    obtain ⟨older, newer, m5, u7, u8, hm5, h7, h8, ho, hn', rn, ro, rfl⟩ := q
    rw [List.take_length] at rn
    rw [hb4]
    clear hb4 b4 hJ J
    simp
    refine wLc_mapW (l := ms.zipIdx) (f := fun p : Nat × Nat => .tup [.int (p.2 : Nat), .int (p.1 : Nat)]) (τ1 := [some (c2, .pn), some (.int k, .sh), some (.int (N : Int), .sh), none, none, some (rowT older, m5), some (rowT newer, .ow), u7, u8, some (.lst (natsT ms), .sh), none, none, none, none, none, none]) (τ2 := [some (c2, .pn), some (.int k, .sh), some (.int (N : Int), .sh), none, none, some (rowT older, m5), some (rowT newer, .ow), none, u8, some (.lst (natsT ms), .sh), none, none, none, none, none, none]) (fun p => .lst (List.replicate p.1 (tieT (p.2, p.2 + 1)))) (fun P hP => ?_) (by simp; omega) rfl rfl (by simp [h7]) (by simp) (fun p hp R hR => ?_) ?_
    · have hen : enumTs (natsT ms) = ms.zipIdx.map fun p => .tup [.int (p.2 : Nat), .int (p.1 : Nat)] := enumTs_map (f := fun x : Nat => T.int (x : Nat)) ms
      simp
      rw [hen]
      exact hP
    · have hp1 : p.1 ∈ ms := by
        obtain ⟨a1, a2, a3⟩ := List.mem_zipIdx hp
        rw [a3]; exact List.getElem_mem _
      have := hm _ hp1
      simp [tieT] at hR ⊢
      exact ⟨by omega, by omega, hR⟩
    · rw [reps_ties (fun p => (p.2, p.2 + 1)) ms.zipIdx]
      have hls := listsT_ties (ms.zipIdx.map fun p => List.replicate p.1 ((p.2, p.2 + 1) : Tie))
      have hfl := flat_ties (ms.zipIdx.map fun p => List.replicate p.1 ((p.2, p.2 + 1) : Tie))
      have hww : (ms.zipIdx.map fun p => List.replicate p.1 ((p.2, p.2 + 1) : Tie)).flatten = ups ms := rfl
      rw [hww] at hfl
      have hle : (ups ms).length ≤ 4 * ms.length := by
        rw [(ups_perm ms).length_eq]
        have := mpath_len ms.reverse 4 fun m h => (hm m (List.mem_reverse.mp h)).2
        rwa [List.length_reverse] at this
      have htl : (tiesT (ups ms)).length = (ups ms).length := by simp [tiesT]
      simp only [hls, hfl, ← List.length_flatten, List.nil_append]
      simp [htl]
      refine ⟨by omega, N, ups ms, rfl, by omega, ?_⟩
      have hmem : ∀ t ∈ ups ms, t.2 = t.1 + 1 ∧ t.2 ≤ ms.length := fun t ht => by
        have := mpath_lt _ t ((ups_perm ms).mem_iff.mp ht)
        rwa [List.length_reverse] at this
      have S := web_ok (n := N) (L := ups ms) (by omega) (by omega) (by omega) fun t ht => by
        have := hmem t ht
        omega
      simp
      exact h N _ newer c2 S.ok (rn.congr fun k => by rw [S.cnt k, cM_perm (ups_perm ms)]) hc2
end K44

set_option Elab.async false
set_option linter.all false
set_option maxRecDepth 100000
set_option maxHeartbeats 0
namespace K44
open PySem PySem.Spec PyProof.Rows L2 Z
theorem dueB_use {n : Nat} {l : List Tie} {d : List Int} (h1 : tiesB n l = true) (h2 : dueB l d = true) : ∃ due : List Nat, d = due.map (fun x : Nat => (x : Int)) ∧ WebOk n (srtTies (l.map mm)) ∧ Row due (cM (srtTies (l.map mm))) := by
  unfold tiesB at h1
  simp only [Bool.and_eq_true, decide_eq_true_eq, List.all_eq_true, Bool.not_eq_true', decide_eq_false_iff_not] at h1
  obtain ⟨⟨⟨a1, a2⟩, a3⟩, a4⟩ := h1
  have S := web_ok (n := n) (L := l) a1 a2 a3 fun t ht => by
    have := a4 t ht
    exact ⟨this.1.1, this.1.2, this.2⟩
  unfold dueB at h2
  rw [Bool.and_eq_true, List.all_eq_true] at h2
  refine ⟨d.map Int.toNat, ?_, S.ok, (Row.ofB h2.2).congr fun k => (S.cnt k).symm⟩
  rw [List.map_map]
  conv => lhs; rw [← List.map_id d]
  refine List.map_congr_left fun x hx => ?_
  have := of_decide_eq_true (h2.1 x hx)
  simp only [Function.comp, id]
  omega
theorem ints_row {due : List Nat} {d : List Int} (h : d = due.map fun x : Nat => (x : Int)) : T.lst (d.map T.int) = rowT due := by
  rw [h, List.map_map]; rfl
theorem kn0 (r : Nat) (hr : r < 8) : ∃ due : List Nat, circleDue (3 + r) = due.map (fun x : Nat => (x : Int)) ∧ WebOk (3 + r) (srtTies ((circle (3 + r)).map mm)) ∧ Row due (cM (srtTies ((circle (3 + r)).map mm))) := by
  have := List.all_eq_true.mp circle_ok _ (List.mem_map.mpr ⟨r, List.mem_range.mpr hr, rfl⟩)
  simp only [id, Bool.and_eq_true] at this
  exact dueB_use this.1 this.2
theorem kn1 (r : Nat) (hr : r < 10) : ∃ due : List Nat, pathDue (1 + r) = due.map (fun x : Nat => (x : Int)) ∧ WebOk (1 + r) (srtTies ((path (1 + r)).map mm)) ∧ Row due (cM (srtTies ((path (1 + r)).map mm))) := by
  have := List.all_eq_true.mp path_ok _ (List.mem_map.mpr ⟨r, List.mem_range.mpr hr, rfl⟩)
  simp only [id, Bool.and_eq_true] at this
  exact dueB_use this.1 this.2
theorem kn2 (r : Nat) (hr : r < 6) : ∃ due : List Nat, wholeDue (1 + r) = due.map (fun x : Nat => (x : Int)) ∧ WebOk (1 + r) (srtTies ((whole (1 + r)).map mm)) ∧ Row due (cM (srtTies ((whole (1 + r)).map mm))) ∧ (whole (1 + r)).length ≤ 20 := by
  have := List.all_eq_true.mp whole_ok _ (List.mem_map.mpr ⟨r, List.mem_range.mpr hr, rfl⟩)
  simp only [id, Bool.and_eq_true] at this
  obtain ⟨d, a, b, c⟩ := dueB_use this.1 this.2
  refine ⟨d, a, b, c, ?_⟩
  have := b.le
  rw [(srtTies_perm _).length_eq, List.length_map] at this
  exact this
theorem choose_small : ∀ n < 11, ∀ j < 12, -(2 ^ 64) < lawChoose n j ∧ lawChoose n j < 2 ^ 64 := by decide +kernel
theorem kn3 (a b : Nat) (ha : 1 ≤ a) (ha5 : a ≤ 5) (hb : 1 ≤ b) (hb5 : b ≤ 5) (hab : b ≤ 20 / a) : ∃ due : List Nat, sidesDue a b = due.map (fun x : Nat => (x : Int)) ∧ WebOk (a + b) (srtTies ((sides a b).map mm)) ∧ Row due (cM (srtTies ((sides a b).map mm))) ∧ (sides a b).length ≤ 20 := by
  have h1 := List.all_eq_true.mp sides_ok _ (List.mem_map.mpr ⟨a - 1, List.mem_range.mpr (by omega), rfl⟩)
  have e1 : 1 + (a - 1) = a := by omega
  rw [e1] at h1
  simp only [id] at h1
  have this := List.all_eq_true.mp h1 (b - 1) (List.mem_range.mpr (by omega))
  have e2 : 1 + (b - 1) = b := by omega
  have e3 : 2 + (a - 1) + (b - 1) = a + b := by omega
  rw [e2, e3] at this
  simp only [Bool.and_eq_true] at this
  obtain ⟨d, a', b', c⟩ := dueB_use this.1 this.2
  refine ⟨d, a', b', c, ?_⟩
  have := b'.le
  rw [(srtTies_perm _).length_eq, List.length_map] at this
  exact this
theorem factors_small : ∀ j < 12, -(2 ^ 64) < lawFactors 1 j 1 ∧ lawFactors 1 j 1 < 2 ^ 64 := by decide +kernel
theorem p__law_known : ∀ c ts Pq, ts.length = 0 → s__law_known c ts Pq → w__law_known (PE1 Pq) (τ1 16 c ts) := by
  rintro c ts Pq _ ⟨rfl, hd, h⟩
  unfold w__law_known
  refine seq_hide fun b1 hb1 => ?_
  simp
  refine ⟨6, rfl, hd, by omega, by omega, fun kind c1 hk hc1 => ?_⟩
  simp
  rw [hb1]
  clear hb1 b1
  refine seq_hide fun b2 hb2 => ?_
  by_cases k0 : kind = 0
  · subst k0
    clear hb2
    simp
    refine ⟨8, rfl, hc1, by omega, by omega, fun r c2 hr hc2 => ?_⟩
    obtain ⟨n, hn⟩ : ∃ n, n = 3 + r := ⟨_, rfl⟩
    have hnc : (3 : Int) + (r : Int) = (n : Int) := by omega
    have hsz : 4194304 ≤ sizeLine := by rw [sizeLine_eq]; decide
    simp
    rw [hnc]
    refine wLc_mapA0 (l := List.range n) (f := fun i : Nat => T.int (i : Nat)) (fun i => .tup [.int (i : Nat), .int (((i + 1) % n : Nat) : Int)]) (fun P hP => ?_) (by simp; omega) rfl (by simp) (fun i hi R hR => ?_) ?_
    · simp
      exact ⟨by omega, hP⟩
    · simp at hR ⊢
      exact ⟨by omega, hR⟩
    · have e : (List.range n).map (fun i => T.tup [.int (i : Nat), .int (((i + 1) % n : Nat) : Int)]) = tiesT (circle n) := by
        unfold tiesT circle
        rw [List.map_map]; rfl
      rw [e]
      refine ⟨n, circle n, rfl, by simp [circle]; omega, ?_⟩
      obtain ⟨due, d1, d2, d3⟩ := kn0 r (by omega)
      rw [← hn] at d1 d2 d3
      refine wLc_mapA0 (l := List.range (n / 2 + 1)) (f := fun i : Nat => T.int (i : Nat)) (fun j => .int ((n : Int) * lawChoose (n - j) j / ((n : Int) - (j : Int)))) (fun P hP => ?_) (by simp; omega) rfl (by simp) (fun j hj R hR => ?_) ?_
      · have e2 : ((n : Int) / 2 + 1).toNat = n / 2 + 1 := by omega
        simp [e2, CDv]
        first | exact ⟨⟨by omega, by omega⟩, hP⟩ | exact ⟨by omega, hP⟩ | exact ⟨by omega, by omega, hP⟩
      · have hj : j < n / 2 + 1 := by simpa using hj
        simp at hR ⊢
        refine ⟨n - j, j, by rw [show ((n : Int) - (j : Int)) = ((n - j : Nat) : Int) by omega], by omega, by omega, .inl (.inl ⟨by omega, by omega⟩), ⟨by omega, by omega⟩, hR⟩
      · have e3 : (List.range (n / 2 + 1)).map (fun j : Nat => T.int ((n : Int) * lawChoose (n - j) j / ((n : Int) - (j : Int)))) = (circleDue n).map T.int := by
          unfold circleDue
          rw [List.map_map]; rfl
        rw [e3, ints_row d1]
        exact h n _ due c2 d2 d3 hc2
  · simp [k0]
    rw [hb2]
    clear hb2 b2
    refine seq_hide fun b3 hb3 => ?_
    by_cases k1 : kind = 1
    · subst k1
      clear hb3
      simp
      refine ⟨10, rfl, hc1, by omega, by omega, fun r c2 hr hc2 => ?_⟩
      obtain ⟨n, hn⟩ : ∃ n, n = 1 + r := ⟨_, rfl⟩
      have hnc : (1 : Int) + (r : Int) = (n : Int) := by omega
      have hsz : 4194304 ≤ sizeLine := by rw [sizeLine_eq]; decide
      simp
      rw [hnc]
      refine wLc_mapA0 (l := List.range (n - 1)) (f := fun i : Nat => T.int (i : Nat)) (fun i => .tup [.int (i : Nat), .int ((i + 1 : Nat) : Int)]) (fun P hP => ?_) (by simp; omega) rfl (by simp) (fun i hi R hR => ?_) ?_
      · have e2 : ((n : Int) - 1).toNat = n - 1 := by omega
        simp [e2]
        first | exact ⟨⟨by omega, by omega⟩, hP⟩ | exact ⟨by omega, hP⟩ | exact ⟨by omega, by omega, hP⟩
      · simp at hR ⊢
        exact hR
      · have e : (List.range (n - 1)).map (fun i => T.tup [.int (i : Nat), .int ((i + 1 : Nat) : Int)]) = tiesT (path n) := by
          unfold tiesT path
          rw [List.map_map]; rfl
        rw [e]
        refine ⟨n, path n, rfl, by simp [path]; omega, ?_⟩
        obtain ⟨due, d1, d2, d3⟩ := kn1 r (by omega)
        rw [← hn] at d1 d2 d3
        refine wLc_mapA0 (l := List.range (n / 2 + 1)) (f := fun i : Nat => T.int (i : Nat)) (fun j => .int (lawChoose (n - j) j)) (fun P hP => ?_) (by simp; omega) rfl (by simp) (fun j hj R hR => ?_) ?_
        · have e2 : ((n : Int) / 2 + 1).toNat = n / 2 + 1 := by omega
          simp [e2, CDv]
          first | exact ⟨⟨by omega, by omega⟩, hP⟩ | exact ⟨by omega, hP⟩ | exact ⟨by omega, by omega, hP⟩
        · have hj : j < n / 2 + 1 := by simpa using hj
          simp at hR ⊢
          refine ⟨n - j, j, by rw [show ((n : Int) - (j : Int)) = ((n - j : Nat) : Int) by omega], by omega, by omega, hR⟩
        · have e3 : (List.range (n / 2 + 1)).map (fun j : Nat => T.int (lawChoose (n - j) j)) = (pathDue n).map T.int := by
            unfold pathDue
            rw [List.map_map]; rfl
          rw [e3, ints_row d1]
          exact h n _ due c2 d2 d3 hc2
    · simp [show ¬ (kind : Int) = 1 by omega]
      rw [hb3]
      clear hb3 b3
      refine seq_hide fun b4 hb4 => ?_
      by_cases k2 : kind = 2
      · subst k2
        clear hb4
        simp
        refine ⟨6, rfl, hc1, by omega, by omega, fun r c2 hr hc2 => ?_⟩
        obtain ⟨n, hn⟩ : ∃ n, n = 1 + r := ⟨_, rfl⟩
        have hnc : (1 : Int) + (r : Int) = (n : Int) := by omega
        have hsz : 4194304 ≤ sizeLine := by rw [sizeLine_eq]; decide
        simp
        rw [hnc]
        obtain ⟨due, d1, d2, d3, d4⟩ := kn2 r (by omega)
        rw [← hn] at d1 d2 d3 d4
        refine wLc_mapA0 (l := List.range n) (f := fun i : Nat => T.int (i : Nat)) (fun i => .lst (tiesT ((List.range (n - (i + 1))).map fun j => ((i, i + 1 + j) : Tie)))) (fun P hP => ?_) (by simp; omega) rfl (by simp) (fun i hi R hR => ?_) ?_
        · simp
          exact ⟨by omega, hP⟩
        · simp
          refine wLc_mapA0 (l := List.range (n - (i + 1))) (f := fun j : Nat => T.int ((i + 1 + j : Nat) : Int)) (fun j => tieT (i, i + 1 + j)) (fun P hP => ?_) (by simp; omega) rfl (by simp) (fun j hj R' hR' => ?_) ?_
          · have e2 : ((n : Int) - ((i : Int) + 1)).toNat = n - (i + 1) := by omega
            have e3 : (List.range (n - (i + 1))).map (fun j : Nat => T.int ((i : Int) + 1 + (j : Nat))) = (List.range (n - (i + 1))).map fun j : Nat => T.int ((i + 1 + j : Nat) : Int) := List.map_congr_left fun j _ => by congr 1
            have hi : i < n := by simpa using hi
            simp [e2, e3]
            exact ⟨⟨by omega, by omega, by omega⟩, hP⟩
          · simp [tieT] at hR' ⊢
            exact hR'
          · simp
            unfold tiesT at hR
            rw [List.map_map] at hR
            exact hR
        · have hls := listsT_ties ((List.range n).map fun i => (List.range (n - (i + 1))).map fun j => ((i, i + 1 + j) : Tie))
          rw [List.map_map] at hls
          have hfl := flat_ties ((List.range n).map fun i => (List.range (n - (i + 1))).map fun j => ((i, i + 1 + j) : Tie))
          have hls' : listsT ((List.range n).map fun i => T.lst (tiesT ((List.range (n - (i + 1))).map fun j => ((i, i + 1 + j) : Tie)))) = some (((List.range n).map fun i => (List.range (n - (i + 1))).map fun j => ((i, i + 1 + j) : Tie)).map tiesT) := hls
          have hww : ((List.range n).map fun i => (List.range (n - (i + 1))).map fun j => ((i, i + 1 + j) : Tie)).flatten = whole n := rfl
          rw [hww] at hfl
          simp only [hls', hfl, ← List.length_flatten, List.nil_append]
          have htl : (tiesT (whole n)).length = (whole n).length := by simp [tiesT]
          simp [htl]
          refine ⟨by omega, n, whole n, rfl, by omega, ?_⟩
          refine wLc_mapA0 (l := List.range (n / 2 + 1)) (f := fun i : Nat => T.int (i : Nat)) (fun j => .int (lawChoose n (2 * j) * lawFactors 1 j 2)) (fun P hP => ?_) (by simp; omega) rfl (by simp) (fun j hj R hR => ?_) ?_
          · have e2 : ((n : Int) / 2 + 1).toNat = n / 2 + 1 := by omega
            simp [e2, CDv]
            first | exact ⟨⟨by omega, by omega⟩, hP⟩ | exact ⟨by omega, hP⟩ | exact ⟨by omega, by omega, hP⟩
          · have hj : j < n / 2 + 1 := by simpa using hj
            simp at hR ⊢
            have hcs := choose_small n (by omega) (2 * j) (by omega)
            exact ⟨.inl (.inl ⟨by omega, by omega⟩), n, 2 * j, by simp, by omega, by omega, 1, j, 2, by simp, by omega, by omega, by omega, .inl (.inl hcs), hR⟩
          · have e3 : (List.range (n / 2 + 1)).map (fun j : Nat => T.int (lawChoose n (2 * j) * lawFactors 1 j 2)) = (wholeDue n).map T.int := by
              unfold wholeDue
              rw [List.map_map]; rfl
            rw [e3, ints_row d1]
            exact h n _ due c2 d2 d3 hc2
      · simp [show ¬ (kind : Int) = 2 by omega]
        rw [hb4]
        clear hb4 b4
        refine seq_hide fun b5 hb5 => ?_
        by_cases k3 : kind = 3
        · subst k3
          clear hb5
          simp
          refine ⟨5, rfl, hc1, by omega, by omega, fun r c2 hr hc2 => ?_⟩
          obtain ⟨a, ha⟩ : ∃ a, a = 1 + r := ⟨_, rfl⟩
          have hac : (1 : Int) + (r : Int) = (a : Int) := by omega
          have hsz : 4194304 ≤ sizeLine := by rw [sizeLine_eq]; decide
          simp
          rw [hac]
          have ha5 : a = 1 ∨ a = 2 ∨ a = 3 ∨ a = 4 ∨ a = 5 := by omega
          refine ⟨⟨by omega, by omega⟩, _, rfl, hc2, ?_, ?_, fun r2 c3 hr2 hc3 => ?_⟩
          · rcases ha5 with e | e | e | e | e <;> rw [e] <;> decide
          · rcases ha5 with e | e | e | e | e <;> rw [e] <;> decide
          obtain ⟨b, hb⟩ : ∃ b, b = 1 + r2 := ⟨_, rfl⟩
          have hbc : (1 : Int) + (r2 : Int) = (b : Int) := by omega
          have hb5 : b ≤ 5 ∧ b ≤ 20 / a ∧ 1 ≤ b := by
            rcases ha5 with e | e | e | e | e
            all_goals
              rw [e] at hr2
              simp at hr2
              rw [e]
              omega
          obtain ⟨due, d1, d2, d3, d4⟩ := kn3 a b (by omega) (by omega) (by omega) hb5.1 hb5.2.1
          simp
          rw [hbc]
          refine wLc_mapA0 (l := List.range a) (f := fun i : Nat => T.int (i : Nat)) (fun i => .lst (tiesT ((List.range b).map fun j => ((i, a + j) : Tie)))) (fun P hP => ?_) (by simp; omega) rfl (by simp) (fun i hi R hR => ?_) ?_
          · simp
            exact ⟨by omega, hP⟩
          · simp
            refine wLc_mapA0 (l := List.range b) (f := fun j : Nat => T.int (j : Nat)) (fun j => tieT (i, a + j)) (fun P hP => ?_) (by simp; omega) rfl (by simp) (fun j hj R' hR' => ?_) ?_
            · simp
              exact ⟨by omega, hP⟩
            · simp [tieT] at hR' ⊢
              exact hR'
            · simp
              unfold tiesT at hR
              rw [List.map_map] at hR
              exact hR
          · have hls := listsT_ties ((List.range a).map fun i => (List.range b).map fun j => ((i, a + j) : Tie))
            rw [List.map_map] at hls
            have hfl := flat_ties ((List.range a).map fun i => (List.range b).map fun j => ((i, a + j) : Tie))
            have hls' : listsT ((List.range a).map fun i => T.lst (tiesT ((List.range b).map fun j => ((i, a + j) : Tie)))) = some (((List.range a).map fun i => (List.range b).map fun j => ((i, a + j) : Tie)).map tiesT) := hls
            have hww : ((List.range a).map fun i => (List.range b).map fun j => ((i, a + j) : Tie)).flatten = sides a b := rfl
            rw [hww] at hfl
            simp only [hls', hfl, ← List.length_flatten, List.nil_append]
            have htl : (tiesT (sides a b)).length = (sides a b).length := by simp [tiesT]
            simp [htl]
            refine ⟨by omega, a + b, sides a b, by simp, by omega, ?_⟩
            refine wLc_mapA0 (l := List.range (min a b + 1)) (f := fun i : Nat => T.int (i : Nat)) (fun j => .int (lawChoose a j * lawChoose b j * lawFactors 1 j 1)) (fun P hP => ?_) (by simp; omega) rfl (by simp) (fun j hj R hR => ?_) ?_
            · have e2 : ((if b < a then (b : Int) else (a : Int)) + 1).toNat = min a b + 1 := by
                split <;> omega
              simp
              rw [e2]
              exact ⟨by split <;> omega, by split <;> omega, hP⟩
            · have hj : j < min a b + 1 := by simpa using hj
              simp at hR ⊢
              have hcs := choose_small a (by omega) j (by omega)
              have hfs := factors_small j (by omega)
              exact ⟨a, j, rfl, by omega, by omega, b, j, rfl, by omega, by omega, .inl (.inl hcs), 1, j, 1, by simp, by omega, by omega, by omega, .inl (.inr hfs), hR⟩
            · have e3 : (List.range (min a b + 1)).map (fun j : Nat => T.int (lawChoose a j * lawChoose b j * lawFactors 1 j 1)) = (sidesDue a b).map T.int := by
                unfold sidesDue
                rw [List.map_map]; rfl
              rw [e3, ints_row d1]
              exact h (a + b) _ due c3 d2 d3 hc3
        · simp [show ¬ (kind : Int) = 3 by omega]
          rw [hb5]
          clear hb5 b5
          show wK45 (PE1 Pq) [some (c1, .pn), some (.int kind, .sh), none, none, none, none, none, none, none, none, none, none, none, none, none, none]
          unfold wK45
          by_cases k4 : kind = 4
          · subst k4
            refine seq_hide fun b6 hb6 => ?_
            simp only [wSeq, wIfS, wTst, wOp, wOs, look, wC, oEq, List.getElem?_cons_succ, List.getElem?_cons_zero, tsh_int, teq_int, true_and]
            exact kn4 hc1 h
          · refine seq_hide fun b6 hb6 => ?_
            simp [show ¬ (kind : Int) = 4 by omega]
            rw [hb6]
            exact kn5 hc1 h
end K44

set_option Elab.async false
set_option linter.all false
set_option maxRecDepth 100000
set_option maxHeartbeats 0
namespace K44
open PySem PySem.Spec PyProof.Rows L2 Z
def gC (f h : Nat → Nat) (i k : Nat) : Nat := if i ≤ k then f i * h (k - i) else 0
def bC (f h : Nat → Nat) (i j k : Nat) : Nat := ((List.range i).map fun i' => gC f h i' k).sum + if i ≤ k ∧ k < i + j then f i * h (k - i) else 0
theorem bC_next {f h : Nat → Nat} {i n k : Nat} (hh : ∀ x, n ≤ x → h x = 0) : bC f h i n k = bC f h (i + 1) 0 k := by
  unfold bC
  rw [List.range_succ, List.map_append, List.sum_append]
  have e2 : (if i + 1 ≤ k ∧ k < i + 1 + 0 then f (i + 1) * h (k - (i + 1)) else 0) = 0 := if_neg (by omega)
  rw [e2]
  unfold gC
  by_cases c : i ≤ k
  · by_cases c2 : k < i + n
    · rw [if_pos ⟨c, c2⟩]; simp [c]
    · rw [if_neg (by omega)]; simp [c, hh (k - i) (by omega)]
  · rw [if_neg (by omega)]; simp [c]
theorem bC_step {f h : Nat → Nat} {i j L : Nat} (hij : i + j < L) : ((List.range L).map (bC f h i j)).set (i + j) (bC f h i j (i + j) + f i * h j) = (List.range L).map (bC f h i (j + 1)) := by
  refine List.ext_getElem (by simp) fun k h1 h2 => ?_
  rw [List.getElem_set]
  have hk : k < L := by simpa using h2
  simp only [List.getElem_map, List.getElem_range]
  unfold bC
  by_cases c : i + j = k
  · subst c
    rw [if_pos rfl, if_neg (by omega), if_pos (by omega)]
    have : i + j - i = j := by omega
    rw [this]; rfl
  · rw [if_neg c]
    congr 1
    by_cases c2 : i ≤ k ∧ k < i + j
    · rw [if_pos c2, if_pos (by omega)]
    · rw [if_neg c2, if_neg (by omega)]
theorem sum_range_more {F : Nat → Nat} {n : Nat} (hF : ∀ x, n ≤ x → F x = 0) : ∀ m, n ≤ m → ((List.range m).map F).sum = ((List.range n).map F).sum := fun m hm => by
  induction m with
  | zero => have : n = 0 := by omega
            rw [this]
  | succ m ih =>
    by_cases c : n = m + 1
    · rw [c]
    · rw [List.range_succ, List.map_append, List.sum_append, ih (by omega)]
      simp [hF m (by omega)]
theorem bC_conv {f h : Nat → Nat} {n k : Nat} (hf : ∀ x, n ≤ x → f x = 0) : bC f h n 0 k = conv f h k := by
  unfold bC
  rw [if_neg (by omega), Nat.add_zero]
  have h1 : ((List.range (max n (k + 1))).map fun i' => gC f h i' k).sum = ((List.range n).map fun i' => gC f h i' k).sum := sum_range_more (fun x hx => by unfold gC; rw [hf x hx]; simp) _ (by omega)
  have h2 : ((List.range (max n (k + 1))).map fun i' => gC f h i' k).sum = ((List.range (k + 1)).map fun i' => gC f h i' k).sum := sum_range_more (fun x hx => by unfold gC; rw [if_neg (by omega)]) _ (by omega)
  rw [← h1, h2]
  unfold conv
  congr 1
  refine List.map_congr_left fun i hi => ?_
  have := List.mem_range.mp hi
  unfold gC
  rw [if_pos (by omega)]
theorem conv_out {f h : Nat → Nat} {n m k : Nat} (hf : ∀ x, n ≤ x → f x = 0) (hh : ∀ x, m ≤ x → h x = 0) (hk : n + m ≤ k + 1) : conv f h k = 0 := by
  unfold conv
  refine List.sum_eq_zero_iff_forall_eq_nat.mpr fun x hx => ?_
  obtain ⟨i, hi, rfl⟩ := List.mem_map.mp hx
  have := List.mem_range.mp hi
  by_cases c : n ≤ i
  · rw [hf i c]; simp
  · rw [hh (k - i) (by omega)]; simp
theorem conv_top {f h : Nat → Nat} {n m : Nat} (h0 : f n * h m ≠ 0) : conv f h (n + m) ≠ 0 := by
  unfold conv
  intro e
  have := List.sum_eq_zero_iff_forall_eq_nat.mp e (f n * h m) (List.mem_map.mpr ⟨n, List.mem_range.mpr (by omega), by rw [show n + m - n = m by omega]⟩)
  exact h0 this
theorem Row.conv {r q : List Nat} {f g : Nat → Nat} (hr : Row r f) (hq : Row q g) : Row ((List.range (r.length + q.length - 1)).map fun k => K44.conv f g k) (K44.conv f g) := by
  have l1 := List.length_pos_iff.mpr hr.ne
  have l2 := List.length_pos_iff.mpr hq.ne
  refine Row.of (fun k => ?_) (fun e => ?_) ?_
  · rw [List.getD_eq_getElem?_getD, List.getElem?_map]
    by_cases c : k < r.length + q.length - 1
    · rw [List.getElem?_range c]; rfl
    · rw [List.getElem?_eq_none (by simp; omega)]
      exact (conv_out (fun x hx => hr.out hx) (fun x hx => hq.out hx) (by omega)).symm
  · have := congrArg List.length e
    simp at this
    omega
  · rw [List.length_map, List.length_range]
    have : r.length + q.length - 1 - 1 = (r.length - 1) + (q.length - 1) := by omega
    rw [this]
    exact conv_top (Nat.mul_ne_zero hr.top hq.top)
def shiftT (n : Nat) (t : Tie) : Tie := (t.1 + n, t.2 + n)
theorem two_webs {n1 n2 : Nat} {l1 l2 : List Tie} {r q : List Nat} (o1 : WebOk n1 l1) (o2 : WebOk n2 l2) (h1 : Row r (cM l1)) (h2 : Row q (cM l2)) (hn : n1 + n2 ≤ 10) (hl : l1.length + l2.length ≤ 20) :
    WebOk (n1 + n2) (srtTies ((l1 ++ l2.map (shiftT n1)).map mm)) ∧ Row ((List.range (r.length + q.length - 1)).map fun k => K44.conv (cM l1) (cM l2) k) (cM (srtTies ((l1 ++ l2.map (shiftT n1)).map mm))) := by
  have n0 := o1.n0
  have S := web_ok (n := n1 + n2) (L := l1 ++ l2.map (shiftT n1)) (by omega) hn (by simpa using hl) fun t ht => by
    rcases List.mem_append.mp ht with h | h
    · have := o1.tie t h
      omega
    · obtain ⟨u, hu, rfl⟩ := List.mem_map.mp h
      have := o2.tie u hu
      simp only [shiftT]
      omega
  refine ⟨S.ok, (Row.conv h1 h2).congr fun k => ?_⟩
  rw [S.cnt, cM_mul l1.length (Nat.le_refl _) fun t ht u hu => ?_]
  · have : cM (l2.map (shiftT n1)) = cM l2 := funext fun k => cM_map (f := shiftT n1) l2.length (Nat.le_refl _) (fun t _ u _ => by
      unfold meets tou shiftT
      rw [Bool.eq_iff_iff]
      simp only [Bool.or_eq_true, decide_eq_true_eq]
      omega) k
    rw [this]
  · obtain ⟨v, hv, rfl⟩ := List.mem_map.mp hu
    have a1 := o1.tie t ht
    unfold meets tou shiftT
    simp only [Bool.or_eq_false_iff, decide_eq_false_iff_not]
    omega

def wLI : WS := (wSeq (wAsg (wSh (wCall1 0 2 s__law_known [])) (wgTup 2 (wgCons (wgNm 4) (wgCons (wgNm 5) wgNil)))) (wIfS (wOr (wNot (wTru (wCall 2 s__law_are_told [.one (wSh (wCall1 1 2 s__law_named [.one (wNm 4)])), .one (wNm 5)]))) (wNot (wTru (wCall1 0 2 s__law_drawn_right [])))) (wRet (wUn (wC (.bl false)))) wNx))
def wLT : WS := (wSeq (wSet 10 (wOp oMul [(.ex (wSh (wLst [.one (wC (.int 0))]))), (.ex (wSh (wOp oSub [(.ex (wSh (wOp oAdd [(.ex (wSh (wOp oLen [(.sl 7)]))), (.ex (wSh (wOp oLen [(.sl 9)])))]))), (.ex (wC (.int 1)))])))])) (wSeq (wFor (wiEnum (wNm 7)) (wgTup 2 (wgCons (wgNm 11) (wgCons (wgNm 12) wgNil))) (wFor (wiEnum (wNm 9)) (wgTup 2 (wgCons (wgNm 13) (wgCons (wgNm 14) wgNil))) (wAsg (wSh (wOp oAdd [(.ex (wSh (wOp oIx [(.sl 10), (.ex (wSh (wOp oAdd [(.sl 11), (.sl 13)])))]))), (.ex (wSh (wOp oMul [(.sl 12), (.sl 14)])))])) (wgIx 10 (wSh (wOp oAdd [(.sl 11), (.sl 13)])))))) (wIfS (wNot (wTru (wCall 2 s__law_are_told [.one (wSh (wCall 2 s__law_web [.one (wSh (wOp oAdd [(.ex (wSh (wOp oIx [(.sl 6), (.ex (wC (.int 0)))]))), (.ex (wSh (wOp oIx [(.sl 8), (.ex (wC (.int 0)))])))])), .one (wSh (wOp oAdd [(.ex (wSh (wOp oList [(.ex (wSh (wOp oIx [(.sl 6), (.ex (wC (.int 1)))])))]))), (.ex (wSh (wLc (wiSeq (wSh (wOp oIx [(.sl 8), (.ex (wC (.int 1)))]))) (wgTup 2 (wgCons (wgNm 12) (wgCons (wgNm 14) wgNil))) wYes (wSh (wTup [.one (wSh (wOp oAdd [(.sl 12), (.ex (wSh (wOp oIx [(.sl 6), (.ex (wC (.int 0)))])))])), .one (wSh (wOp oAdd [(.sl 14), (.ex (wSh (wOp oIx [(.sl 6), (.ex (wC (.int 0)))])))]))])) [12, 14])))]))])), .one (wNm 10)]))) (wRet (wUn (wC (.bl false)))) wNx)))
def wLB : WS := (wSeq (wSet 2 (wCall 2 s__law_dice [.one (wNm 0), .one (wNm 1)])) (wSeq (wFor (wiRng1 (wC (.int 2))) (wgNm 3) wLI) (wSeq (wIfS (wOr (wNot (wTru (wCall1 0 2 s__law_ladder_right []))) (wNot (wTru (wCall1 0 2 s__law_regular_right [])))) (wRet (wUn (wC (.bl false)))) wNx) (wSeq (wAsg (wSh (wTup [.one (wSh (wCall1 0 2 s__law_known [])), .one (wSh (wCall1 0 2 s__law_known []))])) (wgTup 2 (wgCons (wgTup 2 (wgCons (wgNm 6) (wgCons (wgNm 7) wgNil))) (wgCons (wgTup 2 (wgCons (wgNm 8) (wgCons (wgNm 9) wgNil))) wgNil)))) (wIfS (wAnd (wTst (wOp oLe [(.ex (wSh (wOp oAdd [(.ex (wSh (wOp oIx [(.sl 6), (.ex (wC (.int 0)))]))), (.ex (wSh (wOp oIx [(.sl 8), (.ex (wC (.int 0)))])))]))), (.ex (wC (.int 10)))])) (wTst (wOp oLe [(.ex (wSh (wOp oAdd [(.ex (wSh (wOp oLen [(.ex (wSh (wOp oIx [(.sl 6), (.ex (wC (.int 1)))])))]))), (.ex (wSh (wOp oLen [(.ex (wSh (wOp oIx [(.sl 8), (.ex (wC (.int 1)))])))])))]))), (.ex (wC (.int 20)))]))) wLT wNx)))))
def wLR : WS := (wRet (wAndV (wSh (wOp oEq [(.ex (wSh (wCall 1 s_full_pairings [.one (wSh (wTup [.one (wC (.int 3)), .one (wSh (wTup []))]))]))), (.ex (wSh (wTup [])))])) (wAndV (wSh (wOp oEq [(.ex (wSh (wCall 1 s_count_by_ties [.one (wSh (wTup [.one (wC (.int 1)), .one (wSh (wTup []))]))]))), (.ex (wSh (wTup [.one (wC (.int 1))])))])) (wOp oEq [(.ex (wSh (wCall 1 s_all_pairings [.one (wSh (wTup [.one (wC (.int 2)), .one (wSh (wTup [.one (wSh (wTup [.one (wC (.int 0)), .one (wC (.int 1))])), .one (wSh (wTup [.one (wC (.int 0)), .one (wC (.int 1))]))]))]))]))), (.ex (wSh (wTup [.one (wSh (wTup [])), .one (wSh (wTup [.one (wC (.int 0))])), .one (wSh (wTup [.one (wC (.int 1))]))])))]))))
theorem w_law_eq : w_law = (wSeq (wFor (wiRng1 (wSh (wOp oMax [(.ex (wC (.int 1))), (.ex (wSh (wOp oMin [(.ex (wC (.int 2))), (.ex (wSh (wOp oLen [(.sl 0)])))])))]))) (wgNm 1) wLB) wLR) := rfl

theorem law_turn {S : T} {c : T} {P : PEnds} {u1 u3 u4 u5 u6 u7 u8 u9 u10 u11 u12 u13 u14 : Option (T × Md)} (h4 : np u4) (h5 : np u5) (hc : Dice c)
    (h : ∀ c' v4 v5, Dice c' → np v4 → np v5 → P.nx [some (S, .sh), u1, some (c', .ow), u3, v4, v5, u6, u7, u8, u9, u10, u11, u12, u13, u14]) :
    wLI P [some (S, .sh), u1, some (c, .ow), u3, u4, u5, u6, u7, u8, u9, u10, u11, u12, u13, u14] := by
  unfold wLI
  simp [h4, h5]
  refine ⟨rfl, hc, fun n l due c1 ok hr hc1 => ?_⟩
  simp [h4, h5]
  refine ⟨n, l, rfl, hc1, by have := ok.n1; omega, by have := ok.le; omega, fun t ht => by have := ok.tie t ht; omega, fun vs c2 hp hc2 => ?_⟩
  have S := named_ok ok hp
  simp
  refine ⟨n, _, due, rfl, S.ok, hr.congr fun k => (S.cnt k).symm, ?_⟩
  simp
  refine ⟨rfl, hc2, fun c3 hc3 => ?_⟩
  simp
  exact h c3 _ _ hc3 trivial trivial

theorem law_then {S c : T} {P : PEnds} {n1 n2 : Nat} {l1 l2 : List Tie} {r q : List Nat} {u1 u3 u4 u5 u10 u11 u12 u13 u14 : Option (T × Md)} (h10 : np u10) (h11 : np u11) (h12 : np u12) (h13 : np u13) (h14 : np u14)
    (o1 : WebOk n1 l1) (o2 : WebOk n2 l2) (h1 : Row r (cM l1)) (h2 : Row q (cM l2)) (hn : n1 + n2 ≤ 10) (hl : l1.length + l2.length ≤ 20)
    (h : ∀ v10 v11 v12 v13 v14, np v10 → np v11 → np v12 → np v13 → np v14 → P.nx [some (S, .sh), u1, some (c, .ow), u3, u4, u5, some (webT n1 l1, .sh), some (rowT r, .sh), some (webT n2 l2, .sh), some (rowT q, .sh), v10, v11, v12, v13, v14]) :
    wLT P [some (S, .sh), u1, some (c, .ow), u3, u4, u5, some (webT n1 l1, .sh), some (rowT r, .sh), some (webT n2 l2, .sh), some (rowT q, .sh), u10, u11, u12, u13, u14] := by
  have hsz : 4194304 ≤ sizeLine := by rw [sizeLine_eq]; decide
  have k1 := List.length_pos_iff.mpr h1.ne
  have k2 := List.length_pos_iff.mpr h2.ne
  have mm0 : ∀ {r : List Nat} {l : List Tie}, Row r (cM l) → l.length ≤ 20 → r.length ≤ 100 := fun {r l} h hl => by
    refine Nat.le_of_not_lt fun hlt => ?_
    exact h.top (cM_big _ l (by omega))
  have m1 := mm0 h1 (by omega)
  have m2 := mm0 h2 (by omega)
  unfold wLT
  obtain ⟨L, hL⟩ : ∃ L, L = r.length + q.length - 1 := ⟨_, rfl⟩
  refine seq_set (τ1 := [some (S, .sh), u1, some (c, .ow), u3, u4, u5, some (webT n1 l1, .sh), some (rowT r, .sh), some (webT n2 l2, .sh), some (rowT q, .sh), u10, u11, u12, u13, u14]) (.lst (natsT ((List.range L).map (bC (cM l1) (cM l2) 0 0)))) .ow (fun R hR => ?_) (by simp [h10]) ?_
  · have e1 : T.lst (natsT ((List.range L).map (bC (cM l1) (cM l2) 0 0))) = .lst (List.replicate L (.int 0)) := by
      have e0 : ∀ k, bC (cM l1) (cM l2) 0 0 k = 0 := fun k => by unfold bC; rw [if_neg (by omega)]; rfl
      unfold natsT
      rw [List.map_map, T.lst.injEq, List.eq_replicate_iff]
      refine ⟨by simp, fun x hx => ?_⟩
      obtain ⟨k, _, rfl⟩ := List.mem_map.mp hx
      simp [e0]
    rw [e1] at hR
    have e2 : ((r.length : Int) + (q.length : Int) - 1).toNat = L := by omega
    simp [rowT, e2] at hR ⊢
    exact ⟨by omega, by omega, by omega, hR⟩
  · refine seq_hide fun b2 hb2 => ?_
    refine wFor_bind ?_
    simp [rowT]
    obtain ⟨J, hJ⟩ : ∃ J : Nat → PSt → Prop, J = fun i τ => ∃ v11 v12 v13 v14 : Option (T × Md), (np v11 ∧ np v12 ∧ np v13 ∧ np v14) ∧ τ = [some (S, .sh), u1, some (c, .ow), u3, u4, u5, some (webT n1 l1, .sh), some (rowT r, .sh), some (webT n2 l2, .sh), some (rowT q, .sh), some (.lst (natsT ((List.range L).map (bC (cM l1) (cM l2) i 0))), .ow), v11, v12, v13, v14] := ⟨_, rfl⟩
    have hen : ∀ ms : List Nat, enumTs (natsT ms) = ms.zipIdx.map fun p => .tup [.int (p.2 : Nat), .int (p.1 : Nat)] := fun ms => enumTs_map (f := fun x : Nat => T.int (x : Nat)) ms
    refine wFor_map (l := r.zipIdx) (f := fun p : Nat × Nat => .tup [.int (p.2 : Nat), .int (p.1 : Nat)]) (τ1 := [some (S, .sh), u1, some (c, .ow), u3, u4, u5, some (webT n1 l1, .sh), some (rowT r, .sh), some (webT n2 l2, .sh), some (rowT q, .sh), some (.lst (natsT ((List.range L).map (bC (cM l1) (cM l2) 0 0))), .ow), u11, u12, u13, u14]) (fun Q hQ => by rw [hen]; exact hQ) J ?_ ?_ ?_
    · rw [hJ]
      exact ⟨u11, u12, u13, u14, ⟨h11, h12, h13, h14⟩, rfl⟩
    · intro i p τ e qq
      rw [hJ] at qq
      obtain ⟨v11, v12, v13, v14, hv, rfl⟩ := qq
      have hp : r[i]? = some p.1 ∧ p.2 = i := by
        rw [List.getElem?_zipIdx] at e
        cases g : r[i]? with
        | none => rw [g] at e; cases e
        | some x => rw [g] at e; cases e; exact ⟨rfl, by simp⟩
      have hp1 : p.1 = cM l1 i := by
        rw [← h1.at_ i, List.getD_eq_getElem?_getD, hp.1]; rfl
      have hil : i < r.length := (List.getElem?_eq_some_iff.mp hp.1).1
      simp [hv]
      rw [hp1, hp.2]
      refine wFor_bind ?_
      simp [rowT]
      obtain ⟨J2, hJ2⟩ : ∃ J2 : Nat → PSt → Prop, J2 = fun j τ => ∃ v13 v14 : Option (T × Md), (np v13 ∧ np v14) ∧ τ = [some (S, .sh), u1, some (c, .ow), u3, u4, u5, some (webT n1 l1, .sh), some (rowT r, .sh), some (webT n2 l2, .sh), some (rowT q, .sh), some (.lst (natsT ((List.range L).map (bC (cM l1) (cM l2) i j))), .ow), some (.int (i : Nat), .sh), some (.int (cM l1 i : Nat), .sh), v13, v14] := ⟨_, rfl⟩
      refine wFor_map (l := q.zipIdx) (f := fun p : Nat × Nat => .tup [.int (p.2 : Nat), .int (p.1 : Nat)]) (τ1 := [some (S, .sh), u1, some (c, .ow), u3, u4, u5, some (webT n1 l1, .sh), some (rowT r, .sh), some (webT n2 l2, .sh), some (rowT q, .sh), some (.lst (natsT ((List.range L).map (bC (cM l1) (cM l2) i 0))), .ow), some (.int (i : Nat), .sh), some (.int (cM l1 i : Nat), .sh), v13, v14]) (fun Q hQ => by rw [hen]; exact hQ) J2 ?_ ?_ ?_
      · rw [hJ2]
        exact ⟨v13, v14, ⟨hv.2.2.1, hv.2.2.2⟩, rfl⟩
      · intro j p' τ e' qq
        rw [hJ2] at qq
        obtain ⟨w13, w14, hw, rfl⟩ := qq
        have hp' : q[j]? = some p'.1 ∧ p'.2 = j := by
          rw [List.getElem?_zipIdx] at e'
          cases g : q[j]? with
          | none => rw [g] at e'; cases e'
          | some x => rw [g] at e'; cases e'; exact ⟨rfl, by simp⟩
        have hp2 : p'.1 = cM l2 j := by
          rw [← h2.at_ j, List.getD_eq_getElem?_getD, hp'.1]; rfl
        have hjl : j < q.length := (List.getElem?_eq_some_iff.mp hp'.1).1
        have hat : L2.atI (natsT ((List.range L).map (bC (cM l1) (cM l2) i j))) (((i + j : Nat)) : Int) = some (.int (bC (cM l1) (cM l2) i j (i + j) : Nat)) := by
          refine atI_at ?_
          unfold natsT
          rw [List.getElem?_map, List.getElem?_map, List.getElem?_range (by omega)]; rfl
        have hcast : (i : Int) + (j : Int) = ((i + j : Nat) : Int) := by omega
        have hcm : cM l1 i ≤ 1048576 := Nat.le_trans (cM_tM l1 i) (tM_20 o1.le)
        simp [hw]
        rw [hp2, hp'.2, hcast]
        simp only [hat]
        refine ⟨.inl (.inl ⟨by omega, by omega⟩), ?_⟩
        rw [ixN_nat (by omega)]
        simp only []
        rw [hJ2]
        have e5 : (natsT ((List.range L).map (bC (cM l1) (cM l2) i j))).set (i + j) (.int ((bC (cM l1) (cM l2) i j (i + j) : Nat) + (cM l1 i : Nat) * (cM l2 j : Nat))) = natsT ((List.range L).map (bC (cM l1) (cM l2) i (j + 1))) := by
          rw [← bC_step (by omega)]
          unfold natsT
          rw [List.map_set]
          simp
        exact ⟨some (.int j, .sh), some (.int (cM l2 j : Nat), .sh), ⟨trivial, trivial⟩, by rw [← e5]⟩
      · intro τ qq
        rw [hJ2] at qq
        obtain ⟨w13, w14, hw, rfl⟩ := qq
        show J (i + 1) _
        rw [hJ]
        refine ⟨some (.int (i : Nat), .sh), some (.int (cM l1 i : Nat), .sh), w13, w14, ⟨trivial, trivial, hw.1, hw.2⟩, ?_⟩
        have e3 : (List.range L).map (bC (cM l1) (cM l2) i q.zipIdx.length) = (List.range L).map (bC (cM l1) (cM l2) (i + 1) 0) := by
          refine List.map_congr_left fun k _ => ?_
          rw [List.length_zipIdx]
          exact bC_next fun x hx => h2.out hx
        rw [e3]
    · intro τ qq
      rw [hJ] at qq
      obtain ⟨v11, v12, v13, v14, hv, rfl⟩ := qq
      have e3 : (List.range L).map (bC (cM l1) (cM l2) r.zipIdx.length 0) = (List.range L).map fun k => K44.conv (cM l1) (cM l2) k := by
        refine List.map_congr_left fun k _ => ?_
        rw [List.length_zipIdx]
        exact bC_conv fun x hx => h1.out hx
      rw [e3]
      obtain ⟨w1, w2⟩ := two_webs o1 o2 h1 h2 hn hl
      rw [← hL] at w2
      clear hJ J
      show b2 P _
      rw [hb2]
      clear hb2 b2
      simp [webT]
      refine wLc_mapW (l := l2) (f := tieT) (τ1 := [some (S, .sh), u1, some (c, .ow), u3, u4, u5, some (webT n1 l1, .sh), some (rowT r, .sh), some (webT n2 l2, .sh), some (rowT q, .sh), some (.lst (natsT ((List.range L).map fun k => K44.conv (cM l1) (cM l2) k)), .ow), v11, v12, v13, v14])
        (τ2 := [some (S, .sh), u1, some (c, .ow), u3, u4, u5, some (webT n1 l1, .sh), some (rowT r, .sh), some (webT n2 l2, .sh), some (rowT q, .sh), some (.lst (natsT ((List.range L).map fun k => K44.conv (cM l1) (cM l2) k)), .ow), v11, none, v13, none])
        (fun t => tieT (shiftT n1 t)) (fun P hP => ?_) (by omega) rfl rfl (by simp [hv]) (by simp) (fun t ht R hR => ?_) ?_
      · simp
        exact hP
      · simp [tieT, shiftT, webT] at hR ⊢
        exact hR
      · have e6 : l2.map (fun t => tieT (shiftT n1 t)) = tiesT (l2.map (shiftT n1)) := by
          unfold tiesT
          rw [List.map_map]; rfl
        rw [e6]
        have e7 : tiesT l1 ++ tiesT (l2.map (shiftT n1)) = tiesT (l1 ++ l2.map (shiftT n1)) := by unfold tiesT; rw [List.map_append]
        have e8 : ∀ l : List Tie, (tiesT l).length = l.length := fun l => by simp [tiesT]
        simp [e7, e8]
        refine ⟨by omega, n1 + n2, l1 ++ l2.map (shiftT n1), by simp, by simp; omega, ?_⟩
        simp
        refine ⟨n1 + n2, _, _, rfl, by simpa using w1, by simpa using w2, ?_⟩
        simp
        exact h _ _ _ _ _ trivial hv.1 trivial hv.2.2.1 trivial
end K44

set_option Elab.async false
set_option linter.all false
set_option maxRecDepth 100000
set_option maxHeartbeats 0
namespace K44
open PySem PySem.Spec PyProof.Rows L2 Z

theorem law_body {ns : List Int} {P : PEnds} {i : Nat} (hi : i ≤ 2) {u1 u2 u3 u4 u5 u6 u7 u8 u9 u10 u11 u12 u13 u14 : Option (T × Md)} (hu : np u1 ∧ np u2 ∧ np u3 ∧ np u4 ∧ np u5 ∧ np u6 ∧ np u7 ∧ np u8 ∧ np u9 ∧ np u10 ∧ np u11 ∧ np u12 ∧ np u13 ∧ np u14)
    (h : ∀ u1 u2 u3 u4 u5 u6 u7 u8 u9 u10 u11 u12 u13 u14 : Option (T × Md), (np u1 ∧ np u2 ∧ np u3 ∧ np u4 ∧ np u5 ∧ np u6 ∧ np u7 ∧ np u8 ∧ np u9 ∧ np u10 ∧ np u11 ∧ np u12 ∧ np u13 ∧ np u14) → P.nx [some (intsF ns, .sh), u1, u2, u3, u4, u5, u6, u7, u8, u9, u10, u11, u12, u13, u14]) :
    wLB P [some (intsF ns, .sh), some (.int (i : Nat), .sh), u2, u3, u4, u5, u6, u7, u8, u9, u10, u11, u12, u13, u14] := by
  obtain ⟨h1, h2, h3, h4, h5, h6, h7, h8, h9, h10, h11, h12, h13, h14⟩ := hu
  have hsz : 4194304 ≤ sizeLine := by rw [sizeLine_eq]; decide
  unfold wLB
  refine seq_hide fun b2 hb2 => ?_
  simp
  refine ⟨ns, i, rfl, by omega, fun c hc => ?_⟩
  simp [h2]
  rw [hb2]
  clear hb2 b2
  refine seq_hide fun b3 hb3 => ?_
  refine wFor_bind ?_
  simp
  obtain ⟨J, hJ⟩ : ∃ J : Nat → PSt → Prop, J = fun _ τ => ∃ (c : T) (w3 w4 w5 : Option (T × Md)), Dice c ∧ (np w3 ∧ np w4 ∧ np w5) ∧ τ = [some (intsF ns, .sh), some (.int (i : Nat), .sh), some (c, .ow), w3, w4, w5, u6, u7, u8, u9, u10, u11, u12, u13, u14] := ⟨_, rfl⟩
  refine wFor_n (n := 2) (τ1 := [some (intsF ns, .sh), some (.int (i : Nat), .sh), some (c, .ow), u3, u4, u5, u6, u7, u8, u9, u10, u11, u12, u13, u14]) (fun Q hQ => hQ) J ?_ ?_ ?_
  · rw [hJ]
    exact ⟨c, u3, u4, u5, hc, ⟨h3, h4, h5⟩, rfl⟩
  · intro k τ hk q
    rw [hJ] at q
    obtain ⟨c', w3, w4, w5, hc', hw, rfl⟩ := q
    refine ⟨by simp [hw], ?_⟩
    refine law_turn hw.2.1 hw.2.2 hc' fun c'' v4 v5 hc'' g4 g5 => ?_
    show J (k + 1) _
    rw [hJ]
    exact ⟨c'', some (.int (k : Nat), .sh), v4, v5, hc'', ⟨trivial, g4, g5⟩, rfl⟩
  · intro τ q
    rw [hJ] at q
    obtain ⟨c', w3, w4, w5, hc', hw, rfl⟩ := q
    clear hJ J
    show b3 _ _
    rw [hb3]
    clear hb3 b3
    refine seq_hide fun b4 hb4 => ?_
    simp
    refine ⟨rfl, hc', fun c1 hc1 => ?_⟩
    simp
    refine ⟨rfl, hc1, fun c2 hc2 => ?_⟩
    simp
    rw [hb4]
    clear hb4 b4
    refine seq_hide fun b5 hb5 => ?_
    simp
    refine ⟨rfl, hc2, fun n1 l1 d1 c3 o1 r1 hc3 => ?_⟩
    simp
    refine ⟨rfl, hc3, fun n2 l2 d2 c4 o2 r2 hc4 => ?_⟩
    simp [h6, h7, h8, h9]
    rw [hb5]
    clear hb5 b5
    have e8 : ∀ l : List Tie, (tiesT l).length = l.length := fun l => by simp [tiesT]
    simp [webT, e8]
    have fin : P.nx [some (intsF ns, .sh), some (.int (i : Nat), .sh), some (c4, .ow), w3, w4, w5, some (webT n1 l1, .sh), some (rowT d1, .sh), some (webT n2 l2, .sh), some (rowT d2, .sh), u10, u11, u12, u13, u14] := h _ _ _ _ _ _ _ _ _ _ _ _ _ _ ⟨trivial, trivial, hw.1, hw.2.1, hw.2.2, trivial, trivial, trivial, trivial, h10, h11, h12, h13, h14⟩
    by_cases g1 : n1 + n2 ≤ 10
    · rw [if_pos (by omega)]
      by_cases g2 : l1.length + l2.length ≤ 20
      · rw [if_pos (by omega)]
        exact law_then (S := intsF ns) (u1 := some (.int (i : Nat), .sh)) h10 h11 h12 h13 h14 o1 o2 r1 r2 g1 g2 fun v10 v11 v12 v13 v14 q10 q11 q12 q13 q14 =>
          h _ _ _ _ _ _ _ _ _ _ _ _ _ _ ⟨trivial, trivial, hw.1, hw.2.1, hw.2.2, trivial, trivial, trivial, trivial, q10, q11, q12, q13, q14⟩
      · rw [if_neg (by omega)]
        exact fin
    · rw [if_neg (by omega)]
      exact fin
theorem p_law : ∀ ts Pq, ts.length = 1 → s_law ts Pq → w_law (PE0 Pq) (τ0 15 ts) := by
  rintro ts Pq _ ⟨ns, rfl, h⟩
  have hsz : 4194304 ≤ sizeLine := by rw [sizeLine_eq]; decide
  rw [w_law_eq]
  refine wFor_bind ?_
  simp
  obtain ⟨M, hM⟩ : ∃ M : Nat, (M : Int) = (if (1 : Int) < (if (ns.length : Int) < 2 then (ns.length : Int) else 2) then (if (ns.length : Int) < 2 then (ns.length : Int) else 2) else 1) := ⟨if 1 < (if ns.length < 2 then ns.length else 2) then (if ns.length < 2 then ns.length else 2) else 1, by split <;> split <;> split <;> omega⟩
  have hM2 : M ≤ 2 := by split at hM <;> split at hM <;> omega
  simp [intsF]
  rw [← hM]
  refine ⟨by omega, by omega, ?_⟩
  rw [Int.toNat_natCast]
  obtain ⟨J, hJ⟩ : ∃ J : Nat → PSt → Prop, J = fun _ τ => ∃ u1 u2 u3 u4 u5 u6 u7 u8 u9 u10 u11 u12 u13 u14 : Option (T × Md), (np u1 ∧ np u2 ∧ np u3 ∧ np u4 ∧ np u5 ∧ np u6 ∧ np u7 ∧ np u8 ∧ np u9 ∧ np u10 ∧ np u11 ∧ np u12 ∧ np u13 ∧ np u14) ∧ τ = [some (intsF ns, .sh), u1, u2, u3, u4, u5, u6, u7, u8, u9, u10, u11, u12, u13, u14] := ⟨_, rfl⟩
  refine wFor_n (n := M) (τ1 := [some (intsF ns, .sh), none, none, none, none, none, none, none, none, none, none, none, none, none, none]) (fun Q hQ => hQ) J ?_ ?_ ?_
  · rw [hJ]
    exact ⟨none, none, none, none, none, none, none, none, none, none, none, none, none, none, by simp, rfl⟩
  · intro i τ hi q
    rw [hJ] at q
    obtain ⟨u1, u2, u3, u4, u5, u6, u7, u8, u9, u10, u11, u12, u13, u14, hu, rfl⟩ := q
    refine ⟨by simp [hu], ?_⟩
    refine law_body (u1 := u1) (by omega) hu fun v1 v2 v3 v4 v5 v6 v7 v8 v9 v10 v11 v12 v13 v14 hv => ?_
    show J (i + 1) _
    rw [hJ]
    exact ⟨v1, v2, v3, v4, v5, v6, v7, v8, v9, v10, v11, v12, v13, v14, hv, rfl⟩
  · intro τ q
    rw [hJ] at q
    obtain ⟨u1, u2, u3, u4, u5, u6, u7, u8, u9, u10, u11, u12, u13, u14, hu, rfl⟩ := q
    clear hJ J
    show wLR _ _
    unfold wLR
    simp
    have ok0 : ∀ n, 1 ≤ n → n ≤ 10 → WebOk n [] := fun n h0 h1 => ⟨h0, h1, by simp, fun t ht => (List.not_mem_nil ht).elim, List.Pairwise.nil⟩
    refine ⟨3, [], rfl, ok0 3 (by omega) (by omega), ?_⟩
    have f1 : (srtP (fullP 3 [])).map pT = [] := rfl
    rw [f1]
    simp
    refine ⟨1, [], rfl, ok0 1 (by omega) (by omega), fun r hr => ?_⟩
    have f2 : r = [1] := hr.uniq Row.one
    subst f2
    have f3 : T.tup (natsT [1]) = T.tup ([(1 : Int)].map T.int) := rfl
    have f4 : T.tup [T.int 1] = T.tup ([(1 : Int)].map T.int) := rfl
    rw [f3, f4]
    simp only [tsh_tupI, teq_tupI, decide_true, true_and, if_true]
    refine ⟨2, [(0, 1), (0, 1)], rfl, ⟨by omega, by omega, by simp, fun t ht => ?_, by simp [lxT]⟩, ?_⟩
    · simp at ht
      subst ht
      decide
    · have f5 : (srtP (allP [(0, 1), (0, 1)])).map pT = [T.tup [], T.tup [T.int 0], T.tup [T.int 1]] := rfl
      rw [f5]
      have hs : sh 2 (T.tup [T.tup [], T.tup [T.int 0], T.tup [T.int 1]]) := by rw [← f5]; exact sh_tup sh_pTs
      refine ⟨sh_tsh hs, sh_tsh hs, ?_⟩
      have ht := teq_self hs
      show Pq (.bl (teq (T.tup [T.tup [], T.tup [T.int 0], T.tup [T.int 1]]) (T.tup [T.tup [], T.tup [T.int 0], T.tup [T.int 1]]))) Md.sh
      rw [ht]
      exact h
theorem law_is (ns : List Int) (Pq : T → Md → Prop) (hl : ns.length ≤ 63) (h : Pq (.bl true) .sh) : s_law [.frl (ns.map T.int)] Pq := ⟨ns, rfl, h⟩
end K44

set_option Elab.async false
set_option linter.all false
set_option maxRecDepth 100000
set_option maxHeartbeats 0
namespace K44
open PySem PySem.Spec PyProof.Rows L2 Z
def top (i : Nat) : Stmt := PySem.Challenge.pw_tietints_k44_whole_pairings_counted.main.body.getD i (.Pass ⟨0, 0, 0, 0⟩)
def dfn (x : PySem.Str) (i : Nat) : He.DefD := ⟨(x, none), x, x, defArgs (top i), defBody (top i), defScope (top i), [], []⟩
theorem bt_abs : bootBuiltins "abs" = some (.builtin "abs") := by decide +kernel
theorem bt_all : bootBuiltins "all" = some (.builtin "all") := by decide +kernel
theorem bt_bool : bootBuiltins "bool" = some (.type "bool") := by decide +kernel
theorem bt_enumerate : bootBuiltins "enumerate" = some (.type "enumerate") := by decide +kernel
theorem bt_int : bootBuiltins "int" = some (.type "int") := by decide +kernel
theorem bt_isinstance : bootBuiltins "isinstance" = some (.builtin "isinstance") := by decide +kernel
theorem bt_len : bootBuiltins "len" = some (.builtin "len") := by decide +kernel
theorem bt_list : bootBuiltins "list" = some (.type "list") := by decide +kernel
theorem bt_max : bootBuiltins "max" = some (.builtin "max") := by decide +kernel
theorem bt_min : bootBuiltins "min" = some (.builtin "min") := by decide +kernel
theorem bt_range : bootBuiltins "range" = some (.type "range") := by decide +kernel
theorem bt_sorted : bootBuiltins "sorted" = some (.builtin "sorted") := by decide +kernel
theorem bt_sum : bootBuiltins "sum" = some (.builtin "sum") := by decide +kernel
theorem bt_tuple : bootBuiltins "tuple" = some (.type "tuple") := by decide +kernel
theorem bt_zip : bootBuiltins "zip" = some (.type "zip") := by decide +kernel
def fns0 : List He.DefD := [dfn "_law_dice" 49, dfn "_law_roll" 50, dfn "_law_web" 52, dfn "_law_choose" 54, dfn "_law_factors" 55, dfn "_law_known" 56, dfn "is_pair" 10, dfn "is_whole" 8, dfn "is_within" 9, dfn "is_tie_of" 17, dfn "is_web_in" 18, dfn "require_web" 26, dfn "ties_of" 20, dfn "full_pairings_in" 36, dfn "full_pairings" 46, dfn "lowest_place" 37, dfn "choices_at" 38, dfn "added_counts" 39, dfn "counts_upto" 40, dfn "counts_in" 41]
def fns1 : List He.DefD := [dfn "count_by_ties" 44, dfn "pairings_in" 35, dfn "all_pairings" 45, dfn "_law_mixed" 51, dfn "_law_named" 53, dfn "count_pairings" 43, dfn "_law_ladder_right" 62, dfn "_law_pairings" 57, dfn "_law_regular_right" 63, dfn "is_web" 30, dfn "most_upto" 42, dfn "most_paired" 47, dfn "_law_are_told" 59, dfn "_law_drawn" 60, dfn "reached_from" 22, dfn "pieces_in" 23, dfn "pieces" 33, dfn "_law_counts" 58, dfn "is_row_of" 12, dfn "is_ascending" 11]
def fns2 : List He.DefD := [dfn "is_rising_row" 13, dfn "is_lot_in" 19, dfn "require_lot" 27, dfn "require_web_and_lot" 29, dfn "told_web" 21, dfn "part_in" 24, dfn "part_of" 31, dfn "require_tie" 28, dfn "less_tie" 25, dfn "without_tie" 32, dfn "_law_drawn_right" 61, dfn "law" 64]
def fns : List He.DefD := fns0 ++ fns1 ++ fns2
def fa0 : List He.Fa := [.glo "_law_dice", .glo "_law_roll", .glo "_law_web", .glo "_law_choose", .glo "_law_factors", .glo "_law_known", .glo "is_pair", .glo "is_whole", .glo "is_within", .glo "is_tie_of", .glo "is_web_in", .glo "require_web", .glo "ties_of", .glo "full_pairings_in", .glo "full_pairings", .glo "lowest_place", .glo "choices_at", .glo "added_counts", .glo "counts_upto", .glo "counts_in"]
def fa1 : List He.Fa := [.glo "count_by_ties", .glo "pairings_in", .glo "all_pairings", .glo "_law_mixed", .glo "_law_named", .glo "count_pairings", .glo "_law_ladder_right", .glo "_law_pairings", .glo "_law_regular_right", .glo "is_web", .glo "most_upto", .glo "most_paired", .glo "_law_are_told", .glo "_law_drawn", .glo "reached_from", .glo "pieces_in", .glo "pieces", .glo "_law_counts", .glo "is_row_of", .glo "is_ascending"]
def fa2 : List He.Fa := [.glo "is_rising_row", .glo "is_lot_in", .glo "require_lot", .glo "require_web_and_lot", .glo "told_web", .glo "part_in", .glo "part_of", .glo "require_tie", .glo "less_tie", .glo "without_tie", .glo "_law_drawn_right", .glo "law", .int "MOST_PLACES" 10, .int "MOST_TIES" 20, .int "PAIR_SIZE" 2, .free "abs", .free "all", .free "bool", .free "enumerate", .free "int"]
def fa3 : List He.Fa := [.free "isinstance", .free "len", .free "list", .free "max", .free "min", .free "range", .free "sorted", .free "sum", .free "tuple", .free "zip"]
def fa : List He.Fa := fa0 ++ fa1 ++ fa2 ++ fa3
/-- what is known of the names behind the top -/
def Fx (K : PySem.W.Frag) (mg : PySem.Str → Option Value) : Prop := ∃ h : Heap, K.In h ∧ h.Ns mainGlobals mg ∧ He.SaysD fa fns K
section
variable {P : Program} {w : World} {K : PySem.W.Frag} {mg : PySem.Str → Option Value} {base : Heap}
theorem ci_MOST_PLACES (F : Fx K mg) : ∃ t, mg "MOST_PLACES" = some (.int 10 t) := let ⟨_, X, G, c⟩ := F; He.int_ok X G (c.fact 52 (f := .int "MOST_PLACES" 10) rfl)
theorem ci_MOST_TIES (F : Fx K mg) : ∃ t, mg "MOST_TIES" = some (.int 20 t) := let ⟨_, X, G, c⟩ := F; He.int_ok X G (c.fact 53 (f := .int "MOST_TIES" 20) rfl)
theorem ci_PAIR_SIZE (F : Fx K mg) : ∃ t, mg "PAIR_SIZE" = some (.int 2 t) := let ⟨_, X, G, c⟩ := F; He.int_ok X G (c.fact 54 (f := .int "PAIR_SIZE" 2) rfl)
theorem fr_abs (F : Fx K mg) : mg "abs" = none := let ⟨_, X, G, c⟩ := F; He.free_ok X G (c.fact 55 (f := .free "abs") rfl)
theorem fr_all (F : Fx K mg) : mg "all" = none := let ⟨_, X, G, c⟩ := F; He.free_ok X G (c.fact 56 (f := .free "all") rfl)
theorem fr_bool (F : Fx K mg) : mg "bool" = none := let ⟨_, X, G, c⟩ := F; He.free_ok X G (c.fact 57 (f := .free "bool") rfl)
theorem fr_enumerate (F : Fx K mg) : mg "enumerate" = none := let ⟨_, X, G, c⟩ := F; He.free_ok X G (c.fact 58 (f := .free "enumerate") rfl)
theorem fr_int (F : Fx K mg) : mg "int" = none := let ⟨_, X, G, c⟩ := F; He.free_ok X G (c.fact 59 (f := .free "int") rfl)
theorem fr_isinstance (F : Fx K mg) : mg "isinstance" = none := let ⟨_, X, G, c⟩ := F; He.free_ok X G (c.fact 60 (f := .free "isinstance") rfl)
theorem fr_len (F : Fx K mg) : mg "len" = none := let ⟨_, X, G, c⟩ := F; He.free_ok X G (c.fact 61 (f := .free "len") rfl)
theorem fr_list (F : Fx K mg) : mg "list" = none := let ⟨_, X, G, c⟩ := F; He.free_ok X G (c.fact 62 (f := .free "list") rfl)
theorem fr_max (F : Fx K mg) : mg "max" = none := let ⟨_, X, G, c⟩ := F; He.free_ok X G (c.fact 63 (f := .free "max") rfl)
theorem fr_min (F : Fx K mg) : mg "min" = none := let ⟨_, X, G, c⟩ := F; He.free_ok X G (c.fact 64 (f := .free "min") rfl)
theorem fr_range (F : Fx K mg) : mg "range" = none := let ⟨_, X, G, c⟩ := F; He.free_ok X G (c.fact 65 (f := .free "range") rfl)
theorem fr_sorted (F : Fx K mg) : mg "sorted" = none := let ⟨_, X, G, c⟩ := F; He.free_ok X G (c.fact 66 (f := .free "sorted") rfl)
theorem fr_sum (F : Fx K mg) : mg "sum" = none := let ⟨_, X, G, c⟩ := F; He.free_ok X G (c.fact 67 (f := .free "sum") rfl)
theorem fr_tuple (F : Fx K mg) : mg "tuple" = none := let ⟨_, X, G, c⟩ := F; He.free_ok X G (c.fact 68 (f := .free "tuple") rfl)
theorem fr_zip (F : Fx K mg) : mg "zip" = none := let ⟨_, X, G, c⟩ := F; He.free_ok X G (c.fact 69 (f := .free "zip") rfl)
theorem sc__law_dice : FnScope ["script", "spot", "cell", "great"] ["script", "spot"] (defScope (top 49)) := C8.fnScope_by (by decide +kernel)
theorem cal__law_dice (Fc : Fx K mg) : C8.Cal P w K mg base 1 "_law_dice" (spOf K 2 s__law_dice) [] := by
  obtain ⟨fd, F⟩ : ∃ fd, FunD K "_law_dice" "_law_dice" (defArgs (top 49)) (defBody (top 49)) (defScope (top 49)) [] [] (He.fAd K ("_law_dice", none)) fd := let ⟨_, X, G, c⟩ := Fc; c.def_ 0 (d := dfn "_law_dice" 49) rfl
  have hm : mg "_law_dice" = some (.ref (He.fAd K ("_law_dice", none))) := let ⟨_, X, G, c⟩ := Fc; He.glo_ok X G (c.fact 0 (f := .glo "_law_dice") rfl)
  have scS := sc__law_dice
  refine fn_z F hm scS rfl (by decide) (FunD.bindsN F fun _ _ _ _ _ _ us hl => match us, hl with | [_, _], _ => rfl) (fun cdv A outer s H E hr => ?_) p__law_dice
  exact (lss_cons (ls_set scS.nd rfl (.inl rfl) (le_if (lb_cmp ops_lt (op_ltA (hr.uu 0)) (nomark _) (lo_nm rfl (.inl rfl)) (PE.lo (PE.lv (le_callB call_lenA ops_len rfl (fr_len Fc) bt_len (los_cons (lo_nm rfl (.inl rfl)) los_nil))))) (le_callTy call_int1 ops_int rfl (fr_int Fc) bt_int (los_cons (PE.lo (PE.lv (le_ix (hr.uu 1) (lo_nm rfl (.inl rfl)) (lo_nm rfl (.inl rfl))))) los_nil)) (le_bin ops_add op_addA (PE.lo (PE.lv (le_bin ops_mul op_mulA (PE.lo lv_int) (lo_nm rfl (.inl rfl))))) (PE.lo lv_int)))) (lss_cons (ls_set scS.nd rfl (.inl rfl) (le_bin ops_I op_mod (PE.lo (PE.lv (le_callB (call_maxA rfl) ops_max rfl (fr_max Fc) bt_max (los_cons (PE.lo lv_int) (los_cons (PE.lo (PE.lv (le_bin ops_I0 op_sub (PE.lo (PE.lv (le_callB call_abs ops_abs rfl (fr_abs Fc) bt_abs (los_cons (lo_nm rfl (.inl rfl)) los_nil)))) (PE.lo (PE.lv (le_bin ops_I op_pow (PE.lo lv_int) (PE.lo lv_int))))))) los_nil))))) (PE.lo (PE.lv (le_bin ops_mul op_mulA (PE.lo (PE.lv (le_bin ops_I op_pow (PE.lo lv_int) (PE.lo lv_int)))) (PE.lo (PE.lv (le_bin ops_I op_pow (PE.lo lv_int) (PE.lo lv_int))))))))) (lss_one (ls_ret (le_lst (els_one (lv_nm rfl (.inl rfl)) (els_one (PE.lv (le_bin ops_I op_mod (PE.lo (PE.lv (le_bin ops_add op_addA (PE.lo (PE.lv (le_bin ops_add op_addA (PE.lo (PE.lv (le_bin ops_I op_mod (PE.lo (PE.lv (le_callB call_abs ops_abs rfl (fr_abs Fc) bt_abs (los_cons (lo_nm rfl (.inl rfl)) los_nil)))) (PE.lo lv_int)))) (PE.lo (PE.lv (le_bin ops_mul op_mulA (PE.lo lv_int) (lo_nm rfl (.inl rfl)))))))) (PE.lo (PE.lv (le_bin ops_mul op_mulA (PE.lo lv_int) (PE.lo (PE.lv (le_callTy call_int1 ops_int rfl (fr_int Fc) bt_int (los_cons (PE.lo (PE.lv (le_cmp ops_lt (op_ltA (hr.uu 0)) (nomark _) (lo_nm rfl (.inl rfl)) (PE.lo lv_int)))) los_nil)))))))))) (PE.lo lv_int))) els_nil)))))))
theorem sc__law_roll : FnScope ["dice", "total", "found"] ["dice", "total"] (defScope (top 50)) := C8.fnScope_by (by decide +kernel)
theorem cal__law_roll (Fc : Fx K mg) : C8.Cal P w K mg base 1 "_law_roll" (spOf1 K 2 s__law_roll) [] := by
  obtain ⟨fd, F⟩ : ∃ fd, FunD K "_law_roll" "_law_roll" (defArgs (top 50)) (defBody (top 50)) (defScope (top 50)) [] [] (He.fAd K ("_law_roll", none)) fd := let ⟨_, X, G, c⟩ := Fc; c.def_ 1 (d := dfn "_law_roll" 50) rfl
  have hm : mg "_law_roll" = some (.ref (He.fAd K ("_law_roll", none))) := let ⟨_, X, G, c⟩ := Fc; He.glo_ok X G (c.fact 1 (f := .glo "_law_roll") rfl)
  have scS := sc__law_roll
  refine fn_z1 F hm scS rfl (by decide) (FunD.bindsN F fun _ _ _ _ _ _ us hl => match us, hl with | [_, _], _ => rfl) (fun cdv A outer s H E hr => ?_) p__law_roll
  exact (lss_cons (ls_if (lb_cmp ops_B op_gt (nomark _) (PE.lo (PE.lv (le_ix (hr.uu 1) (lo_nm rfl (.inl rfl)) (PE.lo lv_int)))) (PE.lo lv_int)) (lss_cons (ls_set scS.nd rfl (.inl rfl) (le_callTy call_int1 ops_int rfl (fr_int Fc) bt_int (los_cons (PE.lo (PE.lv (le_bin ops_I op_mod (PE.lo (PE.lv (le_ix (hr.uu 1) (lo_nm rfl (.inl rfl)) (PE.lo lv_int)))) (lo_nm rfl (.inl rfl))))) los_nil))) (lss_cons (ls_asg (PE.lv (le_bin ops_fdv op_fdivW (PE.lo (PE.lv (le_ix (hr.uu 1) (lo_nm rfl (.inl rfl)) (PE.lo lv_int)))) (lo_nm rfl (.inl rfl)))) (lg_ix (hr.uu 1) rfl (.inl rfl) lv_int)) (lss_one (ls_ret (le_mv rfl (.inl rfl)))))) lss_nil) (lss_cons (ls_asg (PE.lv (le_bin ops_I op_mod (PE.lo (PE.lv (le_bin ops_add op_addA (PE.lo (PE.lv (le_bin ops_mul op_mulA (PE.lo (PE.lv (le_ix (hr.uu 1) (lo_nm rfl (.inl rfl)) (PE.lo lv_int)))) (PE.lo lv_int)))) (PE.lo lv_int)))) (PE.lo lv_int))) (lg_ix (hr.uu 1) rfl (.inl rfl) lv_int)) (lss_one (ls_ret (le_bin ops_I op_mod (PE.lo (PE.lv (le_callTy call_int1 ops_int rfl (fr_int Fc) bt_int (los_cons (PE.lo (PE.lv (le_bin ops_fdv op_fdivW (PE.lo (PE.lv (le_ix (hr.uu 1) (lo_nm rfl (.inl rfl)) (PE.lo lv_int)))) (PE.lo lv_int)))) los_nil)))) (lo_nm rfl (.inl rfl)))))))
theorem sc__law_web : FnScope ["many", "pairs", "a", "b"] ["many", "pairs"] (defScope (top 52)) := C8.fnScope_by (by decide +kernel)
theorem cal__law_web (Fc : Fx K mg) : C8.Cal P w K mg base 1 "_law_web" (spOf K 2 s__law_web) [] := by
  obtain ⟨fd, F⟩ : ∃ fd, FunD K "_law_web" "_law_web" (defArgs (top 52)) (defBody (top 52)) (defScope (top 52)) [] [] (He.fAd K ("_law_web", none)) fd := let ⟨_, X, G, c⟩ := Fc; c.def_ 2 (d := dfn "_law_web" 52) rfl
  have hm : mg "_law_web" = some (.ref (He.fAd K ("_law_web", none))) := let ⟨_, X, G, c⟩ := Fc; He.glo_ok X G (c.fact 2 (f := .glo "_law_web") rfl)
  have scS := sc__law_web
  refine fn_z F hm scS rfl (by decide) (FunD.bindsN F fun _ _ _ _ _ _ us hl => match us, hl with | [_, _], _ => rfl) (fun cdv A outer s H E hr => ?_) p__law_web
  exact (lss_one (ls_ret (le_tup (els_one (lv_nm rfl (.inl rfl)) (els_one (PE.lv (le_callTy call_tuple_of ops_tuple rfl (fr_tuple Fc) bt_tuple (los_cons (PE.lo (PE.lv (le_callB (cr_sorted rfl (hr.uu 3)) ops_sorted rfl (fr_sorted Fc) bt_sorted (los_cons (PE.lo (PE.lv (le_lc (own := [("a", 2), ("b", 3)]) rfl scS.nd (li_seq (lv_nm rfl (.inl rfl))) (blkOk_by (by kernel_rfl)) (by decide) (fun _ _ _ _ _ => (lg_tup rfl (lgs_cons (lg_nm scS.nd rfl (.inl rfl)) (lgs_cons (lg_nm scS.nd rfl (.inl rfl)) lgs_nil)))) (fun _ _ _ _ _ => lts_nil) (fun _ _ _ _ _ => (PE.lv (le_tup (els_one (PE.lv (le_callB (call_minA rfl) ops_min rfl (fr_min Fc) bt_min (los_cons (lo_nm rfl (.inl rfl)) (los_cons (lo_nm rfl (.inl rfl)) los_nil)))) (els_one (PE.lv (le_callB (call_maxA rfl) ops_max rfl (fr_max Fc) bt_max (los_cons (lo_nm rfl (.inl rfl)) (los_cons (lo_nm rfl (.inl rfl)) los_nil)))) els_nil)))))))) los_nil)))) los_nil))) els_nil)))))
theorem sc__law_choose : FnScope ["n", "k", "found", "at"] ["n", "k"] (defScope (top 54)) := C8.fnScope_by (by decide +kernel)
theorem cal__law_choose (Fc : Fx K mg) : C8.Cal P w K mg base 1 "_law_choose" (spOf K 2 s__law_choose) [] := by
  obtain ⟨fd, F⟩ : ∃ fd, FunD K "_law_choose" "_law_choose" (defArgs (top 54)) (defBody (top 54)) (defScope (top 54)) [] [] (He.fAd K ("_law_choose", none)) fd := let ⟨_, X, G, c⟩ := Fc; c.def_ 3 (d := dfn "_law_choose" 54) rfl
  have hm : mg "_law_choose" = some (.ref (He.fAd K ("_law_choose", none))) := let ⟨_, X, G, c⟩ := Fc; He.glo_ok X G (c.fact 3 (f := .glo "_law_choose") rfl)
  have scS := sc__law_choose
  refine fn_z F hm scS rfl (by decide) (FunD.bindsN F fun _ _ _ _ _ _ us hl => match us, hl with | [_, _], _ => rfl) (fun cdv A outer s H E hr => ?_) p__law_choose
  exact (lss_cons (ls_set scS.nd rfl (.inl rfl) (PE.le lv_int)) (lss_cons (ls_for .never rfl (li_rng1 rfl (fr_range Fc) (lv_nm rfl (.inl rfl))) (lg_nm scS.nd rfl (.inl rfl)) (lss_one (ls_set scS.nd rfl (.inl rfl) (le_bin ops_fdv op_fdivW (PE.lo (PE.lv (le_bin ops_mul op_mulA (lo_nm rfl (.inl rfl)) (PE.lo (PE.lv (le_bin ops_I0 op_sub (lo_nm rfl (.inl rfl)) (lo_nm rfl (.inl rfl)))))))) (PE.lo (PE.lv (le_bin ops_add op_addA (lo_nm rfl (.inl rfl)) (PE.lo lv_int)))))))) (lss_one (ls_ret (le_mv rfl (.inl rfl))))))
theorem sc__law_factors : FnScope ["first", "many", "step", "found", "at"] ["first", "many", "step"] (defScope (top 55)) := C8.fnScope_by (by decide +kernel)
theorem cal__law_factors (Fc : Fx K mg) : C8.Cal P w K mg base 1 "_law_factors" (spOf K 3 s__law_factors) [] := by
  obtain ⟨fd, F⟩ : ∃ fd, FunD K "_law_factors" "_law_factors" (defArgs (top 55)) (defBody (top 55)) (defScope (top 55)) [] [] (He.fAd K ("_law_factors", none)) fd := let ⟨_, X, G, c⟩ := Fc; c.def_ 4 (d := dfn "_law_factors" 55) rfl
  have hm : mg "_law_factors" = some (.ref (He.fAd K ("_law_factors", none))) := let ⟨_, X, G, c⟩ := Fc; He.glo_ok X G (c.fact 4 (f := .glo "_law_factors") rfl)
  have scS := sc__law_factors
  refine fn_z F hm scS rfl (by decide) (FunD.bindsN F fun _ _ _ _ _ _ us hl => match us, hl with | [_, _, _], _ => rfl) (fun cdv A outer s H E hr => ?_) p__law_factors
  exact (lss_cons (ls_set scS.nd rfl (.inl rfl) (PE.le lv_int)) (lss_cons (ls_for .never rfl (li_rng1 rfl (fr_range Fc) (lv_nm rfl (.inl rfl))) (lg_nm scS.nd rfl (.inl rfl)) (lss_one (ls_set scS.nd rfl (.inl rfl) (le_bin ops_mul op_mulA (lo_nm rfl (.inl rfl)) (PE.lo (PE.lv (le_bin ops_add op_addA (lo_nm rfl (.inl rfl)) (PE.lo (PE.lv (le_bin ops_mul op_mulA (lo_nm rfl (.inl rfl)) (lo_nm rfl (.inl rfl)))))))))))) (lss_one (ls_ret (le_mv rfl (.inl rfl))))))
theorem sc__law_known : FnScope ["dice", "kind", "n", "pairs", "m", "last", "here", "many", "more", "often", "x", "k", "a", "b", "number", "at"] ["dice"] (defScope (top 56)) := C8.fnScope_by (by decide +kernel)
theorem cal__law_known (Fc : Fx K mg) : C8.Cal P w K mg base 2 "_law_known" (spOf1 K 1 s__law_known) [] := by
  obtain ⟨fd, F⟩ : ∃ fd, FunD K "_law_known" "_law_known" (defArgs (top 56)) (defBody (top 56)) (defScope (top 56)) [] [] (He.fAd K ("_law_known", none)) fd := let ⟨_, X, G, c⟩ := Fc; c.def_ 5 (d := dfn "_law_known" 56) rfl
  have hm : mg "_law_known" = some (.ref (He.fAd K ("_law_known", none))) := let ⟨_, X, G, c⟩ := Fc; He.glo_ok X G (c.fact 5 (f := .glo "_law_known") rfl)
  have scS := sc__law_known
  refine fn_z1 F hm scS rfl (by decide) (FunD.bindsN F fun _ _ _ _ _ _ us hl => match us, hl with | [_], _ => rfl) (fun cdv A outer s H E hr => ?_) p__law_known
  exact (lss_cons (ls_set scS.nd rfl (.inl rfl) (le_call1 (cal__law_roll Fc) hr (by decide) rfl rfl (.inr (.inl rfl)) (els_one lv_int els_nil))) (lss_cons (ls_if (lb_cmp ops_eq (op_eqD (hr.uu 64)) (nomark _) (lo_nm rfl (.inl rfl)) (PE.lo lv_int)) (lss_cons (ls_set scS.nd rfl (.inr rfl) (le_bin ops_add op_addA (PE.lo lv_int) (PE.lo (PE.lv (le_call1 (cal__law_roll Fc) hr (by decide) rfl rfl (.inr (.inl rfl)) (els_one lv_int els_nil)))))) (lss_one (ls_ret (le_tup (els_one (PE.lv (le_call (cal__law_web Fc) hr (by decide) rfl (els_one (lv_nm rfl (.inr (.inl rfl))) (els_one (PE.lv (le_lc (own := [("x", 10)]) rfl scS.nd (li_rng1 rfl (fr_range Fc) (lv_nm rfl (.inr (.inl rfl)))) (blkOk_by (by kernel_rfl)) (by decide) (fun _ _ _ _ _ => (lg_nm scS.nd rfl (.inl rfl))) (fun _ _ _ _ _ => lts_nil) (fun _ _ _ _ _ => (PE.lv (le_tup (els_one (lv_nm rfl (.inl rfl)) (els_one (PE.lv (le_bin ops_I op_mod (PE.lo (PE.lv (le_bin ops_add op_addA (lo_nm rfl (.inl rfl)) (PE.lo lv_int)))) (lo_nm rfl (.inr (.inl rfl))))) els_nil))))))) els_nil)))) (els_one (PE.lv (le_lc (own := [("k", 11)]) rfl scS.nd (li_rng1 rfl (fr_range Fc) (PE.lv (le_bin ops_add op_addA (PE.lo (PE.lv (le_bin ops_fdv op_fdivW (lo_nm rfl (.inr (.inl rfl))) (PE.lo lv_int)))) (PE.lo lv_int)))) (blkOk_by (by kernel_rfl)) (by decide) (fun _ _ _ _ _ => (lg_nm scS.nd rfl (.inl rfl))) (fun _ _ _ _ _ => lts_nil) (fun _ _ _ _ _ => (PE.lv (le_bin ops_fdv op_fdivW (PE.lo (PE.lv (le_bin ops_mul op_mulA (lo_nm rfl (.inr (.inl rfl))) (PE.lo (PE.lv (le_call (cal__law_choose Fc) hr (by decide) rfl (els_one (PE.lv (le_bin ops_I0 op_sub (lo_nm rfl (.inr (.inl rfl))) (lo_nm rfl (.inl rfl)))) (els_one (lv_nm rfl (.inl rfl)) els_nil)))))))) (PE.lo (PE.lv (le_bin ops_I0 op_sub (lo_nm rfl (.inr (.inl rfl))) (lo_nm rfl (.inl rfl)))))))))) els_nil)))))) lss_nil) (lss_cons (ls_if (lb_cmp ops_eq (op_eqD (hr.uu 64)) (nomark _) (lo_nm rfl (.inl rfl)) (PE.lo lv_int)) (lss_cons (ls_set scS.nd rfl (.inr rfl) (le_bin ops_add op_addA (PE.lo lv_int) (PE.lo (PE.lv (le_call1 (cal__law_roll Fc) hr (by decide) rfl rfl (.inr (.inl rfl)) (els_one lv_int els_nil)))))) (lss_one (ls_ret (le_tup (els_one (PE.lv (le_call (cal__law_web Fc) hr (by decide) rfl (els_one (lv_nm rfl (.inr (.inl rfl))) (els_one (PE.lv (le_lc (own := [("x", 10)]) rfl scS.nd (li_rng1 rfl (fr_range Fc) (PE.lv (le_bin ops_I0 op_sub (lo_nm rfl (.inr (.inl rfl))) (PE.lo lv_int)))) (blkOk_by (by kernel_rfl)) (by decide) (fun _ _ _ _ _ => (lg_nm scS.nd rfl (.inl rfl))) (fun _ _ _ _ _ => lts_nil) (fun _ _ _ _ _ => (PE.lv (le_tup (els_one (lv_nm rfl (.inl rfl)) (els_one (PE.lv (le_bin ops_add op_addA (lo_nm rfl (.inl rfl)) (PE.lo lv_int))) els_nil))))))) els_nil)))) (els_one (PE.lv (le_lc (own := [("k", 11)]) rfl scS.nd (li_rng1 rfl (fr_range Fc) (PE.lv (le_bin ops_add op_addA (PE.lo (PE.lv (le_bin ops_fdv op_fdivW (lo_nm rfl (.inr (.inl rfl))) (PE.lo lv_int)))) (PE.lo lv_int)))) (blkOk_by (by kernel_rfl)) (by decide) (fun _ _ _ _ _ => (lg_nm scS.nd rfl (.inl rfl))) (fun _ _ _ _ _ => lts_nil) (fun _ _ _ _ _ => (PE.lv (le_call (cal__law_choose Fc) hr (by decide) rfl (els_one (PE.lv (le_bin ops_I0 op_sub (lo_nm rfl (.inr (.inl rfl))) (lo_nm rfl (.inl rfl)))) (els_one (lv_nm rfl (.inl rfl)) els_nil))))))) els_nil)))))) lss_nil) (lss_cons (ls_if (lb_cmp ops_eq (op_eqD (hr.uu 64)) (nomark _) (lo_nm rfl (.inl rfl)) (PE.lo lv_int)) (lss_cons (ls_set scS.nd rfl (.inr rfl) (le_bin ops_add op_addA (PE.lo lv_int) (PE.lo (PE.lv (le_call1 (cal__law_roll Fc) hr (by decide) rfl rfl (.inr (.inl rfl)) (els_one lv_int els_nil)))))) (lss_cons (ls_set scS.nd rfl (.inl rfl) (le_sumL rfl rfl (fr_sum Fc) (PE.lv (le_lc (own := [("a", 12)]) rfl scS.nd (li_rng1 rfl (fr_range Fc) (lv_nm rfl (.inr (.inl rfl)))) (blkOk_by (by kernel_rfl)) (by decide) (fun _ _ _ _ _ => (lg_nm scS.nd rfl (.inr rfl))) (fun _ _ _ _ _ => lts_nil) (fun _ _ _ _ _ => (PE.lv (le_lc (own := [("b", 13)]) rfl scS.nd (li_rng2 rfl (fr_range Fc) (PE.lv (le_bin ops_add op_addA (lo_nm rfl (.inr (.inl rfl))) (PE.lo lv_int))) (lv_nm rfl (.inr (.inl rfl)))) (blkOk_by (by kernel_rfl)) (by decide) (fun _ _ _ _ _ => (lg_nm scS.nd rfl (.inl rfl))) (fun _ _ _ _ _ => lts_nil) (fun _ _ _ _ _ => (PE.lv (le_tup (els_one (lv_nm rfl (.inr (.inl rfl))) (els_one (lv_nm rfl (.inl rfl)) els_nil)))))))))) (PE.lv (le_lst els_nil)))) (lss_one (ls_ret (le_tup (els_one (PE.lv (le_call (cal__law_web Fc) hr (by decide) rfl (els_one (lv_nm rfl (.inr (.inl rfl))) (els_one (lv_nm rfl (.inl rfl)) els_nil)))) (els_one (PE.lv (le_lc (own := [("k", 11)]) rfl scS.nd (li_rng1 rfl (fr_range Fc) (PE.lv (le_bin ops_add op_addA (PE.lo (PE.lv (le_bin ops_fdv op_fdivW (lo_nm rfl (.inr (.inl rfl))) (PE.lo lv_int)))) (PE.lo lv_int)))) (blkOk_by (by kernel_rfl)) (by decide) (fun _ _ _ _ _ => (lg_nm scS.nd rfl (.inl rfl))) (fun _ _ _ _ _ => lts_nil) (fun _ _ _ _ _ => (PE.lv (le_bin ops_mul op_mulA (PE.lo (PE.lv (le_call (cal__law_choose Fc) hr (by decide) rfl (els_one (lv_nm rfl (.inr (.inl rfl))) (els_one (PE.lv (le_bin ops_mul op_mulA (PE.lo lv_int) (lo_nm rfl (.inl rfl)))) els_nil))))) (PE.lo (PE.lv (le_call (cal__law_factors Fc) hr (by decide) rfl (els_one lv_int (els_one (lv_nm rfl (.inl rfl)) (els_one lv_int els_nil))))))))))) els_nil))))))) lss_nil) (lss_cons (ls_if (lb_cmp ops_eq (op_eqD (hr.uu 64)) (nomark _) (lo_nm rfl (.inl rfl)) (PE.lo lv_int)) (lss_cons (ls_set scS.nd rfl (.inr rfl) (le_bin ops_add op_addA (PE.lo lv_int) (PE.lo (PE.lv (le_call1 (cal__law_roll Fc) hr (by decide) rfl rfl (.inr (.inl rfl)) (els_one lv_int els_nil)))))) (lss_cons (ls_set scS.nd rfl (.inr rfl) (le_bin ops_add op_addA (PE.lo lv_int) (PE.lo (PE.lv (le_call1 (cal__law_roll Fc) hr (by decide) rfl rfl (.inr (.inl rfl)) (els_one (PE.lv (le_callB (call_minA rfl) ops_min rfl (fr_min Fc) bt_min (los_cons (PE.lo lv_int) (los_cons (PE.lo (PE.lv (le_bin ops_fdv op_fdivW (PE.lo lv_int) (lo_nm rfl (.inr (.inl rfl)))))) los_nil)))) els_nil)))))) (lss_cons (ls_set scS.nd rfl (.inl rfl) (le_sumL rfl rfl (fr_sum Fc) (PE.lv (le_lc (own := [("a", 12)]) rfl scS.nd (li_rng1 rfl (fr_range Fc) (lv_nm rfl (.inr (.inl rfl)))) (blkOk_by (by kernel_rfl)) (by decide) (fun _ _ _ _ _ => (lg_nm scS.nd rfl (.inr rfl))) (fun _ _ _ _ _ => lts_nil) (fun _ _ _ _ _ => (PE.lv (le_lc (own := [("b", 13)]) rfl scS.nd (li_rng1 rfl (fr_range Fc) (lv_nm rfl (.inr (.inl rfl)))) (blkOk_by (by kernel_rfl)) (by decide) (fun _ _ _ _ _ => (lg_nm scS.nd rfl (.inl rfl))) (fun _ _ _ _ _ => lts_nil) (fun _ _ _ _ _ => (PE.lv (le_tup (els_one (lv_nm rfl (.inr (.inl rfl))) (els_one (PE.lv (le_bin ops_add op_addA (lo_nm rfl (.inr (.inl rfl))) (lo_nm rfl (.inl rfl)))) els_nil)))))))))) (PE.lv (le_lst els_nil)))) (lss_one (ls_ret (le_tup (els_one (PE.lv (le_call (cal__law_web Fc) hr (by decide) rfl (els_one (PE.lv (le_bin ops_add op_addA (lo_nm rfl (.inr (.inl rfl))) (lo_nm rfl (.inr (.inl rfl))))) (els_one (lv_nm rfl (.inl rfl)) els_nil)))) (els_one (PE.lv (le_lc (own := [("k", 11)]) rfl scS.nd (li_rng1 rfl (fr_range Fc) (PE.lv (le_bin ops_add op_addA (PE.lo (PE.lv (le_callB (call_minA rfl) ops_min rfl (fr_min Fc) bt_min (los_cons (lo_nm rfl (.inr (.inl rfl))) (los_cons (lo_nm rfl (.inr (.inl rfl))) los_nil))))) (PE.lo lv_int)))) (blkOk_by (by kernel_rfl)) (by decide) (fun _ _ _ _ _ => (lg_nm scS.nd rfl (.inl rfl))) (fun _ _ _ _ _ => lts_nil) (fun _ _ _ _ _ => (PE.lv (le_bin ops_mul op_mulA (PE.lo (PE.lv (le_bin ops_mul op_mulA (PE.lo (PE.lv (le_call (cal__law_choose Fc) hr (by decide) rfl (els_one (lv_nm rfl (.inr (.inl rfl))) (els_one (lv_nm rfl (.inl rfl)) els_nil))))) (PE.lo (PE.lv (le_call (cal__law_choose Fc) hr (by decide) rfl (els_one (lv_nm rfl (.inr (.inl rfl))) (els_one (lv_nm rfl (.inl rfl)) els_nil)))))))) (PE.lo (PE.lv (le_call (cal__law_factors Fc) hr (by decide) rfl (els_one lv_int (els_one (lv_nm rfl (.inl rfl)) (els_one lv_int els_nil))))))))))) els_nil)))))))) lss_nil) (lss_cons (ls_if (lb_cmp ops_eq (op_eqD (hr.uu 64)) (nomark _) (lo_nm rfl (.inl rfl)) (PE.lo lv_int)) (lss_cons (ls_set scS.nd rfl (.inr rfl) (le_bin ops_add op_addA (PE.lo lv_int) (PE.lo (PE.lv (le_call1 (cal__law_roll Fc) hr (by decide) rfl rfl (.inr (.inl rfl)) (els_one lv_int els_nil)))))) (lss_cons (ls_setLc (own := [("x", 10)]) rfl scS.nd rfl rfl (sw_true rfl rfl rfl rfl) (li_rng1 rfl (fr_range Fc) (PE.lv (le_bin ops_I0 op_sub (lo_nm rfl (.inr (.inl rfl))) (PE.lo lv_int)))) (blkOk_by (by kernel_rfl)) (by decide) (fun _ _ _ _ _ => (lg_nm scS.nd rfl (.inl rfl))) (fun _ _ _ _ _ => lts_nil) (fun _ _ _ _ _ => (PE.lv (le_bin ops_add op_addA (PE.lo lv_int) (PE.lo (PE.lv (le_call1 (cal__law_roll Fc) hr (by decide) rfl rfl (.inr (.inl rfl)) (els_one lv_int els_nil)))))))) (lss_cons (ls_parT rfl scS.nd rfl rfl (by decide) (.inl rfl) (.inr rfl) (le_lst (els_one lv_int els_nil)) (le_lst (els_one lv_int els_nil))) (lss_cons (ls_for .never rfl (li_seq (lv_nm rfl (.inl rfl))) (lg_nm scS.nd rfl (.inr rfl)) (lss_cons (ls_set scS.nd rfl (.inr rfl) (le_bin ops_add op_addA (PE.lo (PE.lv (le_lst (els_one lv_int els_nil)))) (PE.lo (PE.lv (le_lc (own := [("number", 14)]) rfl scS.nd (li_seq (lv_nm rfl (.inl rfl))) (blkOk_by (by kernel_rfl)) (by decide) (fun _ _ _ _ _ => (lg_nm scS.nd rfl (.inl rfl))) (fun _ _ _ _ _ => lts_nil) (fun _ _ _ _ _ => (PE.lv (le_bin ops_mul op_mulA (lo_nm rfl (.inr (.inl rfl))) (lo_nm rfl (.inl rfl)))))))))) (lss_one (ls_parT rfl scS.nd rfl rfl (by decide) (.inl rfl) (.inr rfl) (PE.le (lv_nm rfl (.inr (.inl rfl)))) (le_lc (own := [("at", 15)]) rfl scS.nd (li_rng1 rfl (fr_range Fc) (PE.lv (le_callB (call_maxA rfl) ops_max rfl (fr_max Fc) bt_max (los_cons (PE.lo (PE.lv (le_callB call_lenA ops_len rfl (fr_len Fc) bt_len (los_cons (lo_nm rfl (.inr (.inl rfl))) los_nil)))) (los_cons (PE.lo (PE.lv (le_callB call_lenA ops_len rfl (fr_len Fc) bt_len (los_cons (lo_nm rfl (.inr (.inl rfl))) los_nil)))) los_nil))))) (blkOk_by (by kernel_rfl)) (by decide) (fun _ _ _ _ _ => (lg_nm scS.nd rfl (.inl rfl))) (fun _ _ _ _ _ => lts_nil) (fun _ _ _ _ _ => (PE.lv (le_bin ops_add op_addA (PE.lo (PE.lv (le_if (lb_cmp ops_lt (op_ltA (hr.uu 0)) (nomark _) (lo_nm rfl (.inl rfl)) (PE.lo (PE.lv (le_callB call_lenA ops_len rfl (fr_len Fc) bt_len (los_cons (lo_nm rfl (.inr (.inl rfl))) los_nil))))) (le_ix (hr.uu 1) (lo_nm rfl (.inr (.inl rfl))) (lo_nm rfl (.inl rfl))) (PE.le lv_int)))) (PE.lo (PE.lv (le_if (lb_cmp ops_lt (op_ltA (hr.uu 0)) (nomark _) (lo_nm rfl (.inl rfl)) (PE.lo (PE.lv (le_callB call_lenA ops_len rfl (fr_len Fc) bt_len (los_cons (lo_nm rfl (.inr (.inl rfl))) los_nil))))) (le_ix (hr.uu 1) (lo_nm rfl (.inr (.inl rfl))) (lo_nm rfl (.inl rfl))) (PE.le lv_int)))))))))))) (lss_one (ls_ret (le_tup (els_one (PE.lv (le_call (cal__law_web Fc) hr (by decide) rfl (els_one (lv_nm rfl (.inr (.inl rfl))) (els_one (PE.lv (le_sumL rfl rfl (fr_sum Fc) (PE.lv (le_lc (own := [("many", 7), ("x", 10)]) rfl scS.nd (li_enum rfl (fr_enumerate Fc) (lv_nm rfl (.inl rfl))) (blkOk_by (by kernel_rfl)) (by decide) (fun _ _ _ _ _ => (lg_tup rfl (lgs_cons (lg_nm scS.nd rfl (.inl rfl)) (lgs_cons (lg_nm scS.nd rfl (.inl rfl)) lgs_nil)))) (fun _ _ _ _ _ => lts_nil) (fun _ _ _ _ _ => (PE.lv (le_bin ops_mul op_mulA (PE.lo (PE.lv (le_lst (els_one (PE.lv (le_tup (els_one (lv_nm rfl (.inl rfl)) (els_one (PE.lv (le_bin ops_add op_addA (lo_nm rfl (.inl rfl)) (PE.lo lv_int))) els_nil)))) els_nil)))) (lo_nm rfl (.inl rfl))))))) (PE.lv (le_lst els_nil)))) els_nil)))) (els_one (lv_nm rfl (.inr (.inl rfl))) els_nil))))))))) lss_nil) (lss_cons (ls_setLc (own := [("x", 10)]) rfl scS.nd rfl rfl (sw_true rfl rfl rfl rfl) (li_rng1 rfl (fr_range Fc) (PE.lv (le_bin ops_add op_addA (PE.lo lv_int) (PE.lo (PE.lv (le_call1 (cal__law_roll Fc) hr (by decide) rfl rfl (.inr (.inl rfl)) (els_one lv_int els_nil))))))) (blkOk_by (by kernel_rfl)) (by decide) (fun _ _ _ _ _ => (lg_nm scS.nd rfl (.inl rfl))) (fun _ _ _ _ _ => lts_nil) (fun _ _ _ _ _ => (PE.lv (le_bin ops_add op_addA (PE.lo lv_int) (PE.lo (PE.lv (le_call1 (cal__law_roll Fc) hr (by decide) rfl rfl (.inr (.inl rfl)) (els_one lv_int els_nil)))))))) (lss_one (ls_ret (le_tup (els_one (PE.lv (le_call (cal__law_web Fc) hr (by decide) rfl (els_one (PE.lv (le_bin ops_add op_addA (PE.lo (PE.lv (le_callB call_lenA ops_len rfl (fr_len Fc) bt_len (los_cons (lo_nm rfl (.inl rfl)) los_nil)))) (PE.lo lv_int))) (els_one (PE.lv (le_sumL rfl rfl (fr_sum Fc) (PE.lv (le_lc (own := [("many", 7), ("x", 10)]) rfl scS.nd (li_enum rfl (fr_enumerate Fc) (lv_nm rfl (.inl rfl))) (blkOk_by (by kernel_rfl)) (by decide) (fun _ _ _ _ _ => (lg_tup rfl (lgs_cons (lg_nm scS.nd rfl (.inl rfl)) (lgs_cons (lg_nm scS.nd rfl (.inl rfl)) lgs_nil)))) (fun _ _ _ _ _ => lts_nil) (fun _ _ _ _ _ => (PE.lv (le_bin ops_mul op_mulA (PE.lo (PE.lv (le_lst (els_one (PE.lv (le_tup (els_one lv_int (els_one (PE.lv (le_bin ops_add op_addA (lo_nm rfl (.inl rfl)) (PE.lo lv_int))) els_nil)))) els_nil)))) (lo_nm rfl (.inl rfl))))))) (PE.lv (le_lst els_nil)))) els_nil)))) (els_one (PE.lv (le_lst (els_one lv_int (els_one (PE.lv (le_callB (cr_sum rfl) ops_sum rfl (fr_sum Fc) bt_sum (los_cons (lo_nm rfl (.inl rfl)) los_nil))) els_nil)))) els_nil))))))))))))
theorem sc_is_pair : FnScope ["value"] ["value"] (defScope (top 10)) := C8.fnScope_by (by decide +kernel)
theorem cal_is_pair (Fc : Fx K mg) : C8.Cal P w K mg base 1 "is_pair" (spOf K 1 s_is_pair) [] := by
  obtain ⟨fd, F⟩ : ∃ fd, FunD K "is_pair" "is_pair" (defArgs (top 10)) (defBody (top 10)) (defScope (top 10)) [] [] (He.fAd K ("is_pair", none)) fd := let ⟨_, X, G, c⟩ := Fc; c.def_ 6 (d := dfn "is_pair" 10) rfl
  have hm : mg "is_pair" = some (.ref (He.fAd K ("is_pair", none))) := let ⟨_, X, G, c⟩ := Fc; He.glo_ok X G (c.fact 6 (f := .glo "is_pair") rfl)
  have scS := sc_is_pair
  refine fn_z F hm scS rfl (by decide) (FunD.bindsN F fun _ _ _ _ _ _ us hl => match us, hl with | [_], _ => rfl) (fun cdv A outer s H E hr => ?_) p_is_pair
  exact (lss_one (ls_ret (le_and (PE.lv (le_isi rfl (fr_isinstance Fc) rfl (fr_tuple Fc) bt_tuple (lo_nm rfl (.inl rfl)))) (le_one (le_cmp ops_eq (op_eqD (hr.uu 64)) (nomark _) (PE.lo (PE.lv (le_callB call_lenA ops_len rfl (fr_len Fc) bt_len (los_cons (lo_nm rfl (.inl rfl)) los_nil)))) (PE.lo (lv_gint rfl (ci_PAIR_SIZE Fc))))))))
theorem sc_is_whole : FnScope ["value"] ["value"] (defScope (top 8)) := C8.fnScope_by (by decide +kernel)
theorem cal_is_whole (Fc : Fx K mg) : C8.Cal P w K mg base 1 "is_whole" (spOf K 1 s_is_whole) [] := by
  obtain ⟨fd, F⟩ : ∃ fd, FunD K "is_whole" "is_whole" (defArgs (top 8)) (defBody (top 8)) (defScope (top 8)) [] [] (He.fAd K ("is_whole", none)) fd := let ⟨_, X, G, c⟩ := Fc; c.def_ 7 (d := dfn "is_whole" 8) rfl
  have hm : mg "is_whole" = some (.ref (He.fAd K ("is_whole", none))) := let ⟨_, X, G, c⟩ := Fc; He.glo_ok X G (c.fact 7 (f := .glo "is_whole") rfl)
  have scS := sc_is_whole
  refine fn_z F hm scS rfl (by decide) (FunD.bindsN F fun _ _ _ _ _ _ us hl => match us, hl with | [_], _ => rfl) (fun cdv A outer s H E hr => ?_) p_is_whole
  exact (lss_one (ls_ret (le_and (PE.lv (le_isi rfl (fr_isinstance Fc) rfl (fr_int Fc) bt_int (lo_nm rfl (.inl rfl)))) (le_one (le_not (PE.lv (le_isi rfl (fr_isinstance Fc) rfl (fr_bool Fc) bt_bool (lo_nm rfl (.inl rfl)))))))))
theorem sc_is_within : FnScope ["value", "least", "most"] ["value", "least", "most"] (defScope (top 9)) := C8.fnScope_by (by decide +kernel)
theorem cal_is_within (Fc : Fx K mg) : C8.Cal P w K mg base 2 "is_within" (spOf K 3 s_is_within) [] := by
  obtain ⟨fd, F⟩ : ∃ fd, FunD K "is_within" "is_within" (defArgs (top 9)) (defBody (top 9)) (defScope (top 9)) [] [] (He.fAd K ("is_within", none)) fd := let ⟨_, X, G, c⟩ := Fc; c.def_ 8 (d := dfn "is_within" 9) rfl
  have hm : mg "is_within" = some (.ref (He.fAd K ("is_within", none))) := let ⟨_, X, G, c⟩ := Fc; He.glo_ok X G (c.fact 8 (f := .glo "is_within") rfl)
  have scS := sc_is_within
  refine fn_z F hm scS rfl (by decide) (FunD.bindsN F fun _ _ _ _ _ _ us hl => match us, hl with | [_, _, _], _ => rfl) (fun cdv A outer s H E hr => ?_) p_is_within
  exact (lss_one (ls_ret (le_and (PE.lv (le_call (cal_is_whole Fc) hr (by decide) rfl (els_one (lv_nm rfl (.inl rfl)) els_nil))) (le_one (le_chain ops_le ops_le (op_leA (hr.uu 0)) (op_leA (hr.uu 0)) (lv_nm rfl (.inl rfl)) (lv_nm rfl (.inl rfl)) (lv_nm rfl (.inl rfl)))))))
theorem sc_is_tie_of : FnScope ["n", "value", "x"] ["n", "value"] (defScope (top 17)) := C8.fnScope_by (by decide +kernel)
theorem cal_is_tie_of (Fc : Fx K mg) : C8.Cal P w K mg base 3 "is_tie_of" (spOf K 2 s_is_tie_of) [] := by
  obtain ⟨fd, F⟩ : ∃ fd, FunD K "is_tie_of" "is_tie_of" (defArgs (top 17)) (defBody (top 17)) (defScope (top 17)) [] [] (He.fAd K ("is_tie_of", none)) fd := let ⟨_, X, G, c⟩ := Fc; c.def_ 9 (d := dfn "is_tie_of" 17) rfl
  have hm : mg "is_tie_of" = some (.ref (He.fAd K ("is_tie_of", none))) := let ⟨_, X, G, c⟩ := Fc; He.glo_ok X G (c.fact 9 (f := .glo "is_tie_of") rfl)
  have scS := sc_is_tie_of
  refine fn_z F hm scS rfl (by decide) (FunD.bindsN F fun _ _ _ _ _ _ us hl => match us, hl with | [_, _], _ => rfl) (fun cdv A outer s H E hr => ?_) p_is_tie_of
  exact (lss_one (ls_ret (le_and (PE.lv (le_call (cal_is_pair Fc) hr (by decide) rfl (els_one (lv_nm rfl (.inl rfl)) els_nil))) (le_and (PE.lv (le_callB (cr_all rfl) ops_all rfl (fr_all Fc) bt_all (los_cons (PE.lo (PE.lv (le_lc (own := [("x", 2)]) rfl scS.nd (li_seq (lv_nm rfl (.inl rfl))) (blkOk_by (by kernel_rfl)) (by decide) (fun _ _ _ _ _ => (lg_nm scS.nd rfl (.inl rfl))) (fun _ _ _ _ _ => lts_nil) (fun _ _ _ _ _ => (PE.lv (le_call (cal_is_within Fc) hr (by decide) rfl (els_one (lv_nm rfl (.inl rfl)) (els_one lv_int (els_one (PE.lv (le_bin ops_I0 op_sub (lo_nm rfl (.inr (.inl rfl))) (PE.lo lv_int))) els_nil))))))))) los_nil))) (le_one (le_cmp ops_lt (op_ltA (hr.uu 0)) (nomark _) (PE.lo (PE.lv (le_ix (hr.uu 1) (lo_nm rfl (.inl rfl)) (PE.lo lv_int)))) (PE.lo (PE.lv (le_ix (hr.uu 1) (lo_nm rfl (.inl rfl)) (PE.lo lv_int))))))))))
theorem sc_is_web_in : FnScope ["value", "n", "ties", "tie", "one", "other"] ["value"] (defScope (top 18)) := C8.fnScope_by (by decide +kernel)
theorem cal_is_web_in (Fc : Fx K mg) : C8.Cal P w K mg base 4 "is_web_in" (spOf K 1 s_is_web_in) [] := by
  obtain ⟨fd, F⟩ : ∃ fd, FunD K "is_web_in" "is_web_in" (defArgs (top 18)) (defBody (top 18)) (defScope (top 18)) [] [] (He.fAd K ("is_web_in", none)) fd := let ⟨_, X, G, c⟩ := Fc; c.def_ 10 (d := dfn "is_web_in" 18) rfl
  have hm : mg "is_web_in" = some (.ref (He.fAd K ("is_web_in", none))) := let ⟨_, X, G, c⟩ := Fc; He.glo_ok X G (c.fact 10 (f := .glo "is_web_in") rfl)
  have scS := sc_is_web_in
  refine fn_z F hm scS rfl (by decide) (FunD.bindsN F fun _ _ _ _ _ _ us hl => match us, hl with | [_], _ => rfl) (fun cdv A outer s H E hr => ?_) p_is_web_in
  exact (lss_cons (ls_if (PW.lb (lw_or (lb_not (lb_tru (le_call (cal_is_pair Fc) hr (by decide) rfl (els_one (lv_nm rfl (.inl rfl)) els_nil)))) (lw_or (lb_not (lb_tru (le_call (cal_is_within Fc) hr (by decide) rfl (els_one (PE.lv (le_ix (hr.uu 1) (lo_nm rfl (.inl rfl)) (PE.lo lv_int))) (els_one lv_int (els_one (lv_gint rfl (ci_MOST_PLACES Fc)) els_nil)))))) (lw_or1 (lb_not (lb_tru (le_isi rfl (fr_isinstance Fc) rfl (fr_tuple Fc) bt_tuple (PE.lo (PE.lv (le_ix (hr.uu 1) (lo_nm rfl (.inl rfl)) (PE.lo lv_int))))))))))) (lss_one (ls_ret (PE.le lv_bl))) lss_nil) (lss_cons (ls_asg (lv_nm rfl (.inl rfl)) (lg_tup rfl (lgs_cons (lg_nm scS.nd rfl (.inr rfl)) (lgs_cons (lg_nm scS.nd rfl (.inl rfl)) lgs_nil)))) (lss_cons (ls_if (PW.lb (lw_or (lb_cmp ops_B op_gt (nomark _) (PE.lo (PE.lv (le_callB call_lenA ops_len rfl (fr_len Fc) bt_len (los_cons (lo_nm rfl (.inl rfl)) los_nil)))) (PE.lo (lv_gint rfl (ci_MOST_TIES Fc)))) (lw_or1 (lb_not (lb_tru (le_callB (cr_all rfl) ops_all rfl (fr_all Fc) bt_all (los_cons (PE.lo (PE.lv (le_lc (own := [("tie", 3)]) rfl scS.nd (li_seq (lv_nm rfl (.inl rfl))) (blkOk_by (by kernel_rfl)) (by decide) (fun _ _ _ _ _ => (lg_nm scS.nd rfl (.inl rfl))) (fun _ _ _ _ _ => lts_nil) (fun _ _ _ _ _ => (PE.lv (le_call (cal_is_tie_of Fc) hr (by decide) rfl (els_one (lv_nm rfl (.inr (.inl rfl))) (els_one (lv_nm rfl (.inl rfl)) els_nil)))))))) los_nil))))))) (lss_one (ls_ret (PE.le lv_bl))) lss_nil) (lss_one (ls_ret (le_callB (cr_all rfl) ops_all rfl (fr_all Fc) bt_all (los_cons (PE.lo (PE.lv (le_lc (own := [("one", 4), ("other", 5)]) rfl scS.nd (li_zip rfl (fr_zip Fc) (lv_nm rfl (.inl rfl)) (PE.lv (le_slA (lo_nm rfl (.inl rfl)) (PE.lo lv_int)))) (blkOk_by (by kernel_rfl)) (by decide) (fun _ _ _ _ _ => (lg_tup rfl (lgs_cons (lg_nm scS.nd rfl (.inl rfl)) (lgs_cons (lg_nm scS.nd rfl (.inl rfl)) lgs_nil)))) (fun _ _ _ _ _ => lts_nil) (fun _ _ _ _ _ => (PE.lv (le_cmp ops_le (op_leA (hr.uu 0)) (nomark _) (lo_nm rfl (.inl rfl)) (lo_nm rfl (.inl rfl)))))))) los_nil)))))))
theorem sc_require_web : FnScope ["value"] ["value"] (defScope (top 26)) := C8.fnScope_by (by decide +kernel)
theorem cal_require_web (Fc : Fx K mg) : C8.Cal P w K mg base 5 "require_web" (spOf K 1 s_require_web) [] := by
  obtain ⟨fd, F⟩ : ∃ fd, FunD K "require_web" "require_web" (defArgs (top 26)) (defBody (top 26)) (defScope (top 26)) [] [] (He.fAd K ("require_web", none)) fd := let ⟨_, X, G, c⟩ := Fc; c.def_ 11 (d := dfn "require_web" 26) rfl
  have hm : mg "require_web" = some (.ref (He.fAd K ("require_web", none))) := let ⟨_, X, G, c⟩ := Fc; He.glo_ok X G (c.fact 11 (f := .glo "require_web") rfl)
  have scS := sc_require_web
  refine fn_z F hm scS rfl (by decide) (FunD.bindsN F fun _ _ _ _ _ _ us hl => match us, hl with | [_], _ => rfl) (fun cdv A outer s H E hr => ?_) p_require_web
  exact (lss_one (ls_if (lb_not (lb_tru (le_call (cal_is_web_in Fc) hr (by decide) rfl (els_one (lv_nm rfl (.inl rfl)) els_nil)))) lss_never lss_nil))
theorem sc_ties_of : FnScope ["web"] ["web"] (defScope (top 20)) := C8.fnScope_by (by decide +kernel)
theorem cal_ties_of (Fc : Fx K mg) : C8.Cal P w K mg base 1 "ties_of" (spOf K 1 s_ties_of) [] := by
  obtain ⟨fd, F⟩ : ∃ fd, FunD K "ties_of" "ties_of" (defArgs (top 20)) (defBody (top 20)) (defScope (top 20)) [] [] (He.fAd K ("ties_of", none)) fd := let ⟨_, X, G, c⟩ := Fc; c.def_ 12 (d := dfn "ties_of" 20) rfl
  have hm : mg "ties_of" = some (.ref (He.fAd K ("ties_of", none))) := let ⟨_, X, G, c⟩ := Fc; He.glo_ok X G (c.fact 12 (f := .glo "ties_of") rfl)
  have scS := sc_ties_of
  refine fn_z F hm scS rfl (by decide) (FunD.bindsN F fun _ _ _ _ _ _ us hl => match us, hl with | [_], _ => rfl) (fun cdv A outer s H E hr => ?_) p_ties_of
  exact (lss_one (ls_ret (le_callTy call_list_of ops_list rfl (fr_list Fc) bt_list (los_cons (PE.lo (PE.lv (le_ix (hr.uu 1) (lo_nm rfl (.inl rfl)) (PE.lo lv_int)))) los_nil))))
theorem sc_full_pairings_in : FnScope ["web", "ties", "waiting", "found", "pairing", "left", "i", "a", "b", "x"] ["web"] (defScope (top 36)) := C8.fnScope_by (by decide +kernel)
theorem cal_full_pairings_in (Fc : Fx K mg) : C8.Cal P w K mg base 2 "full_pairings_in" (spOf K 1 s_full_pairings_in) [] := by
  obtain ⟨fd, F⟩ : ∃ fd, FunD K "full_pairings_in" "full_pairings_in" (defArgs (top 36)) (defBody (top 36)) (defScope (top 36)) [] [] (He.fAd K ("full_pairings_in", none)) fd := let ⟨_, X, G, c⟩ := Fc; c.def_ 13 (d := dfn "full_pairings_in" 36) rfl
  have hm : mg "full_pairings_in" = some (.ref (He.fAd K ("full_pairings_in", none))) := let ⟨_, X, G, c⟩ := Fc; He.glo_ok X G (c.fact 13 (f := .glo "full_pairings_in") rfl)
  have scS := sc_full_pairings_in
  refine fn_z F hm scS rfl (by decide) (FunD.bindsN F fun _ _ _ _ _ _ us hl => match us, hl with | [_], _ => rfl) (fun cdv A outer s H E hr => ?_) p_full_pairings_in
  exact (lss_cons (ls_par3 rfl scS.nd rfl rfl rfl (by decide) (by decide) (by decide) rfl rfl rfl (le_call (cal_ties_of Fc) hr (by decide) rfl (els_one (lv_nm rfl (.inl rfl)) els_nil)) (le_lst (els_one (PE.lv (le_tup (els_one (PE.lv (le_tup els_nil)) (els_one (PE.lv (le_tupRg1 rfl rfl (fr_tuple Fc) rfl (fr_range Fc) (PE.lv (le_ix (hr.uu 1) (lo_nm rfl (.inl rfl)) (PE.lo lv_int))))) els_nil)))) els_nil)) (le_lst els_nil) rfl) (lss_cons (ls_while .never (lb_cmp ops_ne (op_neD (hr.uu 64)) (nomark _) (lo_nm rfl (.inl rfl)) (PE.lo (PE.lv (le_lst els_nil)))) (lss_cons (ls_asg (PE.lv (le_pop rfl (.inl rfl))) (lg_tup rfl (lgs_cons (lg_nm scS.nd rfl (.inl rfl)) (lgs_cons (lg_nm scS.nd rfl (.inl rfl)) lgs_nil)))) (lss_one (ls_if (lb_cmp ops_eq (op_eqD (hr.uu 64)) (nomark _) (lo_nm rfl (.inl rfl)) (PE.lo (PE.lv (le_tup els_nil)))) (lss_one (ls_expr (le_app rfl (.inl rfl) (PE.lv (le_callTy call_tuple_of ops_tuple rfl (fr_tuple Fc) bt_tuple (los_cons (PE.lo (PE.lv (le_callB (cr_sorted rfl (hr.uu 3)) ops_sorted rfl (fr_sorted Fc) bt_sorted (los_cons (lo_nm rfl (.inl rfl)) los_nil)))) los_nil)))))) (lss_one (ls_for .never rfl (li_enum rfl (fr_enumerate Fc) (lv_nm rfl (.inl rfl))) (lg_tup rfl (lgs_cons (lg_nm scS.nd rfl (.inl rfl)) (lgs_cons (lg_tup rfl (lgs_cons (lg_nm scS.nd rfl (.inr rfl)) (lgs_cons (lg_nm scS.nd rfl (.inr rfl)) lgs_nil))) lgs_nil))) (lss_one (ls_if (PW.lb (lw_and (lb_cmp ops_in (op_inA (hr.uu 65)) (by with_unfolding_all rfl) (PE.lo (PE.lv (le_ix (hr.uu 1) (lo_nm rfl (.inl rfl)) (PE.lo lv_int)))) (PE.lo (PE.lv (le_tup (els_one (lv_nm rfl (.inr (.inl rfl))) (els_one (lv_nm rfl (.inr (.inl rfl))) els_nil)))))) (lw_and (lb_cmp ops_in (op_inA (hr.uu 65)) (by with_unfolding_all rfl) (lo_nm rfl (.inr (.inl rfl))) (lo_nm rfl (.inl rfl))) (lw_and1 (lb_cmp ops_in (op_inA (hr.uu 65)) (by with_unfolding_all rfl) (lo_nm rfl (.inr (.inl rfl))) (lo_nm rfl (.inl rfl))))))) (lss_one (ls_expr (le_app rfl (.inl rfl) (PE.lv (le_tup (els_one (PE.lv (le_tup (els_star (lo_nm rfl (.inl rfl)) (els_one (lv_nm rfl (.inl rfl)) els_nil)))) (els_one (PE.lv (le_callTy call_tuple_of ops_tuple rfl (fr_tuple Fc) bt_tuple (los_cons (PE.lo (PE.lv (le_lc (own := [("x", 9)]) rfl scS.nd (li_seq (lv_nm rfl (.inl rfl))) (blkOk_by (by kernel_rfl)) (by decide) (fun _ _ _ _ _ => (lg_nm scS.nd rfl (.inl rfl))) (fun _ _ _ _ _ => (lts_one (lb_cmp ops_in (op_notInA (hr.uu 65)) (by with_unfolding_all rfl) (lo_nm rfl (.inl rfl)) (PE.lo (PE.lv (le_tup (els_one (lv_nm rfl (.inr (.inl rfl))) (els_one (lv_nm rfl (.inr (.inl rfl))) els_nil)))))))) (fun _ _ _ _ _ => (lv_nm rfl (.inl rfl)))))) los_nil))) els_nil))))))) lss_nil)))))))) (lss_one (ls_ret (le_mv rfl (.inl rfl))))))
theorem sc_full_pairings : FnScope ["web"] ["web"] (defScope (top 46)) := C8.fnScope_by (by decide +kernel)
theorem cal_full_pairings (Fc : Fx K mg) : C8.Cal P w K mg base 6 "full_pairings" (spOf K 1 s_full_pairings) [] := by
  obtain ⟨fd, F⟩ : ∃ fd, FunD K "full_pairings" "full_pairings" (defArgs (top 46)) (defBody (top 46)) (defScope (top 46)) [] [] (He.fAd K ("full_pairings", none)) fd := let ⟨_, X, G, c⟩ := Fc; c.def_ 14 (d := dfn "full_pairings" 46) rfl
  have hm : mg "full_pairings" = some (.ref (He.fAd K ("full_pairings", none))) := let ⟨_, X, G, c⟩ := Fc; He.glo_ok X G (c.fact 14 (f := .glo "full_pairings") rfl)
  have scS := sc_full_pairings
  refine fn_z F hm scS rfl (by decide) (FunD.bindsN F fun _ _ _ _ _ _ us hl => match us, hl with | [_], _ => rfl) (fun cdv A outer s H E hr => ?_) p_full_pairings
  exact (lss_cons (ls_expr (le_call (cal_require_web Fc) hr (by decide) rfl (els_one (lv_nm rfl (.inl rfl)) els_nil))) (lss_one (ls_ret (le_callTy call_tuple_of ops_tuple rfl (fr_tuple Fc) bt_tuple (los_cons (PE.lo (PE.lv (le_callB (cr_sorted rfl (hr.uu 3)) ops_sorted rfl (fr_sorted Fc) bt_sorted (los_cons (PE.lo (PE.lv (le_call (cal_full_pairings_in Fc) hr (by decide) rfl (els_one (lv_nm rfl (.inl rfl)) els_nil)))) los_nil)))) los_nil)))))
theorem sc_lowest_place : FnScope ["left", "x"] ["left"] (defScope (top 37)) := C8.fnScope_by (by decide +kernel)
theorem cal_lowest_place (Fc : Fx K mg) : C8.Cal P w K mg base 1 "lowest_place" (spOf K 1 s_lowest_place) [] := by
  obtain ⟨fd, F⟩ : ∃ fd, FunD K "lowest_place" "lowest_place" (defArgs (top 37)) (defBody (top 37)) (defScope (top 37)) [] [] (He.fAd K ("lowest_place", none)) fd := let ⟨_, X, G, c⟩ := Fc; c.def_ 15 (d := dfn "lowest_place" 37) rfl
  have hm : mg "lowest_place" = some (.ref (He.fAd K ("lowest_place", none))) := let ⟨_, X, G, c⟩ := Fc; He.glo_ok X G (c.fact 15 (f := .glo "lowest_place") rfl)
  have scS := sc_lowest_place
  refine fn_z F hm scS rfl (by decide) (FunD.bindsN F fun _ _ _ _ _ _ us hl => match us, hl with | [_], _ => rfl) (fun cdv A outer s H E hr => ?_) p_lowest_place
  exact (lss_cons (ls_set scS.nd rfl (.inl rfl) (PE.le lv_int)) (lss_cons (ls_while .never (lb_cmp ops_eq (op_eqD (hr.uu 64)) (nomark _) (PE.lo (PE.lv (le_bin ops_I0 op_and (PE.lo (PE.lv (le_bin ops_I op_shr (lo_nm rfl (.inl rfl)) (lo_nm rfl (.inl rfl))))) (PE.lo lv_int)))) (PE.lo lv_int)) (lss_one (ls_aug ops_I0 iop_add scS.nd rfl (.inl rfl) (PE.le lv_int)))) (lss_one (ls_ret (le_mv rfl (.inl rfl))))))
theorem sc_choices_at : FnScope ["ties", "x", "left", "found", "i", "a", "b"] ["ties", "x", "left"] (defScope (top 38)) := C8.fnScope_by (by decide +kernel)
theorem cal_choices_at (Fc : Fx K mg) : C8.Cal P w K mg base 1 "choices_at" (spOf K 3 s_choices_at) [] := by
  obtain ⟨fd, F⟩ : ∃ fd, FunD K "choices_at" "choices_at" (defArgs (top 38)) (defBody (top 38)) (defScope (top 38)) [] [] (He.fAd K ("choices_at", none)) fd := let ⟨_, X, G, c⟩ := Fc; c.def_ 16 (d := dfn "choices_at" 38) rfl
  have hm : mg "choices_at" = some (.ref (He.fAd K ("choices_at", none))) := let ⟨_, X, G, c⟩ := Fc; He.glo_ok X G (c.fact 16 (f := .glo "choices_at") rfl)
  have scS := sc_choices_at
  refine fn_z F hm scS rfl (by decide) (FunD.bindsN F fun _ _ _ _ _ _ us hl => match us, hl with | [_, _, _], _ => rfl) (fun cdv A outer s H E hr => ?_) p_choices_at
  exact (lss_cons (ls_set scS.nd rfl (.inl rfl) (le_lst els_nil)) (lss_cons (ls_for .never rfl (li_enum rfl (fr_enumerate Fc) (lv_nm rfl (.inl rfl))) (lg_tup rfl (lgs_cons (lg_nm scS.nd rfl (.inl rfl)) (lgs_cons (lg_tup rfl (lgs_cons (lg_nm scS.nd rfl (.inl rfl)) (lgs_cons (lg_nm scS.nd rfl (.inl rfl)) lgs_nil))) lgs_nil))) (lss_one (ls_if (PW.lb (lw_and (lb_cmp ops_in (op_inA (hr.uu 65)) (by with_unfolding_all rfl) (lo_nm rfl (.inl rfl)) (PE.lo (PE.lv (le_tup (els_one (lv_nm rfl (.inl rfl)) (els_one (lv_nm rfl (.inl rfl)) els_nil)))))) (lw_and (lb_tru (le_bin ops_I0 op_and (PE.lo (PE.lv (le_bin ops_I op_shr (lo_nm rfl (.inl rfl)) (lo_nm rfl (.inl rfl))))) (PE.lo lv_int))) (lw_and1 (lb_tru (le_bin ops_I0 op_and (PE.lo (PE.lv (le_bin ops_I op_shr (lo_nm rfl (.inl rfl)) (lo_nm rfl (.inl rfl))))) (PE.lo lv_int))))))) (lss_one (ls_expr (le_app rfl (.inl rfl) (PE.lv (le_tup (els_one (lv_nm rfl (.inl rfl)) (els_one (PE.lv (le_bin ops_I0 op_and (PE.lo (PE.lv (le_bin ops_I0 op_and (lo_nm rfl (.inl rfl)) (PE.lo (PE.lv (le_un ops_U un_inv (PE.lo (PE.lv (le_bin ops_I op_shl (PE.lo lv_int) (lo_nm rfl (.inl rfl))))))))))) (PE.lo (PE.lv (le_un ops_U un_inv (PE.lo (PE.lv (le_bin ops_I op_shl (PE.lo lv_int) (lo_nm rfl (.inl rfl)))))))))) els_nil))))))) lss_nil))) (lss_one (ls_ret (le_mv rfl (.inl rfl))))))
theorem sc_added_counts : FnScope ["one", "other", "size", "at", "row"] ["one", "other"] (defScope (top 39)) := C8.fnScope_by (by decide +kernel)
theorem cal_added_counts (Fc : Fx K mg) : C8.Cal P w K mg base 1 "added_counts" (spOf K 2 s_added_counts) [] := by
  obtain ⟨fd, F⟩ : ∃ fd, FunD K "added_counts" "added_counts" (defArgs (top 39)) (defBody (top 39)) (defScope (top 39)) [] [] (He.fAd K ("added_counts", none)) fd := let ⟨_, X, G, c⟩ := Fc; c.def_ 17 (d := dfn "added_counts" 39) rfl
  have hm : mg "added_counts" = some (.ref (He.fAd K ("added_counts", none))) := let ⟨_, X, G, c⟩ := Fc; He.glo_ok X G (c.fact 17 (f := .glo "added_counts") rfl)
  have scS := sc_added_counts
  refine fn_z F hm scS rfl (by decide) (FunD.bindsN F fun _ _ _ _ _ _ us hl => match us, hl with | [_, _], _ => rfl) (fun cdv A outer s H E hr => ?_) p_added_counts
  exact (lss_cons (ls_set scS.nd rfl (.inl rfl) (le_callB (call_maxA rfl) ops_max rfl (fr_max Fc) bt_max (los_cons (PE.lo (PE.lv (le_callB call_lenA ops_len rfl (fr_len Fc) bt_len (los_cons (lo_nm rfl (.inr (.inl rfl))) los_nil)))) (los_cons (PE.lo (PE.lv (le_callB call_lenA ops_len rfl (fr_len Fc) bt_len (los_cons (lo_nm rfl (.inr (.inl rfl))) los_nil)))) los_nil)))) (lss_one (ls_ret (le_lc (own := [("at", 3)]) rfl scS.nd (li_rng1 rfl (fr_range Fc) (lv_nm rfl (.inl rfl))) (blkOk_by (by kernel_rfl)) (by decide) (fun _ _ _ _ _ => (lg_nm scS.nd rfl (.inr rfl))) (fun _ _ _ _ _ => lts_nil) (fun _ _ _ _ _ => (PE.lv (le_callB (cr_sum rfl) ops_sum rfl (fr_sum Fc) bt_sum (los_cons (PE.lo (PE.lv (le_lc (own := [("row", 4)]) rfl scS.nd (li_seq (PE.lv (le_tup (els_one (lv_nm rfl (.inr (.inl rfl))) (els_one (lv_nm rfl (.inr (.inl rfl))) els_nil))))) (blkOk_by (by kernel_rfl)) (by decide) (fun _ _ _ _ _ => (lg_nm scS.nd rfl (.inl rfl))) (fun _ _ _ _ _ => (lts_one (lb_cmp ops_lt (op_ltA (hr.uu 0)) (nomark _) (lo_nm rfl (.inr (.inl rfl))) (PE.lo (PE.lv (le_callB call_lenA ops_len rfl (fr_len Fc) bt_len (los_cons (lo_nm rfl (.inl rfl)) los_nil))))))) (fun _ _ _ _ _ => (PE.lv (le_ix (hr.uu 1) (lo_nm rfl (.inl rfl)) (lo_nm rfl (.inr (.inl rfl))))))))) los_nil))))))))
theorem sc_counts_upto : FnScope ["web", "ties", "found", "left", "x", "here", "i", "rest"] ["web"] (defScope (top 40)) := C8.fnScope_by (by decide +kernel)
theorem cal_counts_upto (Fc : Fx K mg) : C8.Cal P w K mg base 2 "counts_upto" (spOf K 1 s_counts_upto) [] := by
  obtain ⟨fd, F⟩ : ∃ fd, FunD K "counts_upto" "counts_upto" (defArgs (top 40)) (defBody (top 40)) (defScope (top 40)) [] [] (He.fAd K ("counts_upto", none)) fd := let ⟨_, X, G, c⟩ := Fc; c.def_ 18 (d := dfn "counts_upto" 40) rfl
  have hm : mg "counts_upto" = some (.ref (He.fAd K ("counts_upto", none))) := let ⟨_, X, G, c⟩ := Fc; He.glo_ok X G (c.fact 18 (f := .glo "counts_upto") rfl)
  have scS := sc_counts_upto
  refine fn_z F hm scS rfl (by decide) (FunD.bindsN F fun _ _ _ _ _ _ us hl => match us, hl with | [_], _ => rfl) (fun cdv A outer s H E hr => ?_) p_counts_upto
  exact (lss_cons (ls_par rfl scS.nd rfl rfl (by decide) rfl rfl (le_call (cal_ties_of Fc) hr (by decide) rfl (els_one (lv_nm rfl (.inl rfl)) els_nil)) (le_lst (els_one (PE.lv (le_lst (els_one lv_int els_nil))) els_nil)) rfl) (lss_cons (ls_for .never rfl (li_rng2 rfl (fr_range Fc) lv_int (PE.lv (le_bin ops_I op_shl (PE.lo lv_int) (PE.lo (PE.lv (le_ix (hr.uu 1) (lo_nm rfl (.inl rfl)) (PE.lo lv_int))))))) (lg_nm scS.nd rfl (.inl rfl)) (lss_cons (ls_set scS.nd rfl (.inl rfl) (le_call (cal_lowest_place Fc) hr (by decide) rfl (els_one (lv_nm rfl (.inl rfl)) els_nil))) (lss_cons (ls_set scS.nd rfl (.inl rfl) (le_ix (hr.uu 1) (lo_nm rfl (.inl rfl)) (PE.lo (PE.lv (le_bin ops_I0 op_and (lo_nm rfl (.inl rfl)) (PE.lo (PE.lv (le_un ops_U un_inv (PE.lo (PE.lv (le_bin ops_I op_shl (PE.lo lv_int) (lo_nm rfl (.inl rfl))))))))))))) (lss_cons (ls_for .never rfl (li_seq (PE.lv (le_call (cal_choices_at Fc) hr (by decide) rfl (els_one (lv_nm rfl (.inl rfl)) (els_one (lv_nm rfl (.inl rfl)) (els_one (lv_nm rfl (.inl rfl)) els_nil)))))) (lg_tup rfl (lgs_cons (lg_nm scS.nd rfl (.inl rfl)) (lgs_cons (lg_nm scS.nd rfl (.inl rfl)) lgs_nil))) (lss_one (ls_set scS.nd rfl (.inl rfl) (le_call (cal_added_counts Fc) hr (by decide) rfl (els_one (lv_nm rfl (.inl rfl)) (els_one (PE.lv (le_lst (els_one lv_int (els_star (PE.lo (PE.lv (le_ix (hr.uu 1) (lo_nm rfl (.inl rfl)) (lo_nm rfl (.inl rfl))))) els_nil)))) els_nil)))))) (lss_one (ls_expr (le_app rfl (.inl rfl) (lv_nm rfl (.inl rfl))))))))) (lss_one (ls_ret (le_mv rfl (.inl rfl))))))
theorem sc_counts_in : FnScope ["web"] ["web"] (defScope (top 41)) := C8.fnScope_by (by decide +kernel)
theorem cal_counts_in (Fc : Fx K mg) : C8.Cal P w K mg base 3 "counts_in" (spOf K 1 s_counts_in) [] := by
  obtain ⟨fd, F⟩ : ∃ fd, FunD K "counts_in" "counts_in" (defArgs (top 41)) (defBody (top 41)) (defScope (top 41)) [] [] (He.fAd K ("counts_in", none)) fd := let ⟨_, X, G, c⟩ := Fc; c.def_ 19 (d := dfn "counts_in" 41) rfl
  have hm : mg "counts_in" = some (.ref (He.fAd K ("counts_in", none))) := let ⟨_, X, G, c⟩ := Fc; He.glo_ok X G (c.fact 19 (f := .glo "counts_in") rfl)
  have scS := sc_counts_in
  refine fn_z F hm scS rfl (by decide) (FunD.bindsN F fun _ _ _ _ _ _ us hl => match us, hl with | [_], _ => rfl) (fun cdv A outer s H E hr => ?_) p_counts_in
  exact (lss_one (ls_ret (le_ix (hr.uu 1) (PE.lo (PE.lv (le_call (cal_counts_upto Fc) hr (by decide) rfl (els_one (lv_nm rfl (.inl rfl)) els_nil)))) (PE.lo (PE.lv (le_un ops_U un_neg (PE.lo lv_int)))))))
theorem sc_count_by_ties : FnScope ["web"] ["web"] (defScope (top 44)) := C8.fnScope_by (by decide +kernel)
theorem cal_count_by_ties (Fc : Fx K mg) : C8.Cal P w K mg base 6 "count_by_ties" (spOf K 1 s_count_by_ties) [] := by
  obtain ⟨fd, F⟩ : ∃ fd, FunD K "count_by_ties" "count_by_ties" (defArgs (top 44)) (defBody (top 44)) (defScope (top 44)) [] [] (He.fAd K ("count_by_ties", none)) fd := let ⟨_, X, G, c⟩ := Fc; c.def_ 20 (d := dfn "count_by_ties" 44) rfl
  have hm : mg "count_by_ties" = some (.ref (He.fAd K ("count_by_ties", none))) := let ⟨_, X, G, c⟩ := Fc; He.glo_ok X G (c.fact 20 (f := .glo "count_by_ties") rfl)
  have scS := sc_count_by_ties
  refine fn_z F hm scS rfl (by decide) (FunD.bindsN F fun _ _ _ _ _ _ us hl => match us, hl with | [_], _ => rfl) (fun cdv A outer s H E hr => ?_) p_count_by_ties
  exact (lss_cons (ls_expr (le_call (cal_require_web Fc) hr (by decide) rfl (els_one (lv_nm rfl (.inl rfl)) els_nil))) (lss_one (ls_ret (le_callTy call_tuple_of ops_tuple rfl (fr_tuple Fc) bt_tuple (los_cons (PE.lo (PE.lv (le_call (cal_counts_in Fc) hr (by decide) rfl (els_one (lv_nm rfl (.inl rfl)) els_nil)))) los_nil)))))
theorem sc_pairings_in : FnScope ["web", "ties", "waiting", "found", "pairing", "first", "used", "i", "a", "b"] ["web"] (defScope (top 35)) := C8.fnScope_by (by decide +kernel)
theorem cal_pairings_in (Fc : Fx K mg) : C8.Cal P w K mg base 2 "pairings_in" (spOf K 1 s_pairings_in) [] := by
  obtain ⟨fd, F⟩ : ∃ fd, FunD K "pairings_in" "pairings_in" (defArgs (top 35)) (defBody (top 35)) (defScope (top 35)) [] [] (He.fAd K ("pairings_in", none)) fd := let ⟨_, X, G, c⟩ := Fc; c.def_ 21 (d := dfn "pairings_in" 35) rfl
  have hm : mg "pairings_in" = some (.ref (He.fAd K ("pairings_in", none))) := let ⟨_, X, G, c⟩ := Fc; He.glo_ok X G (c.fact 21 (f := .glo "pairings_in") rfl)
  have scS := sc_pairings_in
  refine fn_z F hm scS rfl (by decide) (FunD.bindsN F fun _ _ _ _ _ _ us hl => match us, hl with | [_], _ => rfl) (fun cdv A outer s H E hr => ?_) p_pairings_in
  exact (lss_cons (ls_par3 rfl scS.nd rfl rfl rfl (by decide) (by decide) (by decide) rfl rfl rfl (le_call (cal_ties_of Fc) hr (by decide) rfl (els_one (lv_nm rfl (.inl rfl)) els_nil)) (le_lst (els_one (PE.lv (le_tup (els_one (PE.lv (le_tup els_nil)) (els_one lv_int (els_one (PE.lv (le_tup els_nil)) els_nil))))) els_nil)) (le_lst els_nil) rfl) (lss_cons (ls_while .never (lb_cmp ops_ne (op_neD (hr.uu 64)) (nomark _) (lo_nm rfl (.inl rfl)) (PE.lo (PE.lv (le_lst els_nil)))) (lss_cons (ls_asg (PE.lv (le_pop rfl (.inl rfl))) (lg_tup rfl (lgs_cons (lg_nm scS.nd rfl (.inl rfl)) (lgs_cons (lg_nm scS.nd rfl (.inl rfl)) (lgs_cons (lg_nm scS.nd rfl (.inl rfl)) lgs_nil))))) (lss_cons (ls_expr (le_app rfl (.inl rfl) (lv_nm rfl (.inl rfl)))) (lss_one (ls_for .never rfl (li_rng2 rfl (fr_range Fc) (lv_nm rfl (.inl rfl)) (PE.lv (le_callB call_lenA ops_len rfl (fr_len Fc) bt_len (los_cons (lo_nm rfl (.inl rfl)) los_nil)))) (lg_nm scS.nd rfl (.inl rfl)) (lss_cons (ls_asg (PE.lv (le_ix (hr.uu 1) (lo_nm rfl (.inl rfl)) (lo_nm rfl (.inl rfl)))) (lg_tup rfl (lgs_cons (lg_nm scS.nd rfl (.inl rfl)) (lgs_cons (lg_nm scS.nd rfl (.inl rfl)) lgs_nil)))) (lss_one (ls_if (PW.lb (lw_and (lb_cmp ops_in (op_notInA (hr.uu 65)) (by with_unfolding_all rfl) (lo_nm rfl (.inl rfl)) (lo_nm rfl (.inl rfl))) (lw_and1 (lb_cmp ops_in (op_notInA (hr.uu 65)) (by with_unfolding_all rfl) (lo_nm rfl (.inl rfl)) (lo_nm rfl (.inl rfl)))))) (lss_one (ls_expr (le_app rfl (.inl rfl) (PE.lv (le_tup (els_one (PE.lv (le_tup (els_star (lo_nm rfl (.inl rfl)) (els_one (lv_nm rfl (.inl rfl)) els_nil)))) (els_one (PE.lv (le_bin ops_add op_addA (lo_nm rfl (.inl rfl)) (PE.lo lv_int))) (els_one (PE.lv (le_tup (els_star (lo_nm rfl (.inl rfl)) (els_one (lv_nm rfl (.inl rfl)) (els_one (lv_nm rfl (.inl rfl)) els_nil))))) els_nil)))))))) lss_nil)))))))) (lss_one (ls_ret (le_mv rfl (.inl rfl))))))
theorem sc_all_pairings : FnScope ["web"] ["web"] (defScope (top 45)) := C8.fnScope_by (by decide +kernel)
theorem cal_all_pairings (Fc : Fx K mg) : C8.Cal P w K mg base 6 "all_pairings" (spOf K 1 s_all_pairings) [] := by
  obtain ⟨fd, F⟩ : ∃ fd, FunD K "all_pairings" "all_pairings" (defArgs (top 45)) (defBody (top 45)) (defScope (top 45)) [] [] (He.fAd K ("all_pairings", none)) fd := let ⟨_, X, G, c⟩ := Fc; c.def_ 22 (d := dfn "all_pairings" 45) rfl
  have hm : mg "all_pairings" = some (.ref (He.fAd K ("all_pairings", none))) := let ⟨_, X, G, c⟩ := Fc; He.glo_ok X G (c.fact 22 (f := .glo "all_pairings") rfl)
  have scS := sc_all_pairings
  refine fn_z F hm scS rfl (by decide) (FunD.bindsN F fun _ _ _ _ _ _ us hl => match us, hl with | [_], _ => rfl) (fun cdv A outer s H E hr => ?_) p_all_pairings
  exact (lss_cons (ls_expr (le_call (cal_require_web Fc) hr (by decide) rfl (els_one (lv_nm rfl (.inl rfl)) els_nil))) (lss_one (ls_ret (le_callTy call_tuple_of ops_tuple rfl (fr_tuple Fc) bt_tuple (los_cons (PE.lo (PE.lv (le_callB (cr_sorted rfl (hr.uu 3)) ops_sorted rfl (fr_sorted Fc) bt_sorted (los_cons (PE.lo (PE.lv (le_call (cal_pairings_in Fc) hr (by decide) rfl (els_one (lv_nm rfl (.inl rfl)) els_nil)))) los_nil)))) los_nil)))))
theorem sc__law_mixed : FnScope ["dice", "items", "found", "item", "at"] ["dice", "items"] (defScope (top 51)) := C8.fnScope_by (by decide +kernel)
theorem cal__law_mixed (Fc : Fx K mg) : C8.Cal P w K mg base 2 "_law_mixed" (spOf1 K 2 s__law_mixed) [] := by
  obtain ⟨fd, F⟩ : ∃ fd, FunD K "_law_mixed" "_law_mixed" (defArgs (top 51)) (defBody (top 51)) (defScope (top 51)) [] [] (He.fAd K ("_law_mixed", none)) fd := let ⟨_, X, G, c⟩ := Fc; c.def_ 23 (d := dfn "_law_mixed" 51) rfl
  have hm : mg "_law_mixed" = some (.ref (He.fAd K ("_law_mixed", none))) := let ⟨_, X, G, c⟩ := Fc; He.glo_ok X G (c.fact 23 (f := .glo "_law_mixed") rfl)
  have scS := sc__law_mixed
  refine fn_z1 F hm scS rfl (by decide) (FunD.bindsN F fun _ _ _ _ _ _ us hl => match us, hl with | [_, _], _ => rfl) (fun cdv A outer s H E hr => ?_) p__law_mixed
  exact (lss_cons (ls_set scS.nd rfl (.inl rfl) (le_lst els_nil)) (lss_cons (ls_for .never rfl (li_seq (lv_nm rfl (.inl rfl))) (lg_nm scS.nd rfl (.inl rfl)) (lss_cons (ls_set scS.nd rfl (.inl rfl) (le_call1 (cal__law_roll Fc) hr (by decide) rfl rfl (.inl rfl) (els_one (PE.lv (le_bin ops_add op_addA (PE.lo (PE.lv (le_callB call_lenA ops_len rfl (fr_len Fc) bt_len (los_cons (lo_nm rfl (.inl rfl)) los_nil)))) (PE.lo lv_int))) els_nil))) (lss_one (ls_set scS.nd rfl (.inl rfl) (le_bin ops_add op_addA (PE.lo (PE.lv (le_bin ops_add op_addA (PE.lo (PE.lv (le_slB (lo_nm rfl (.inl rfl)) (lo_nm rfl (.inl rfl))))) (PE.lo (PE.lv (le_lst (els_one (lv_nm rfl (.inl rfl)) els_nil))))))) (PE.lo (PE.lv (le_slA (lo_nm rfl (.inl rfl)) (lo_nm rfl (.inl rfl)))))))))) (lss_one (ls_ret (le_mv rfl (.inl rfl))))))
theorem sc__law_named : FnScope ["dice", "web", "names", "a", "b"] ["dice", "web"] (defScope (top 53)) := C8.fnScope_by (by decide +kernel)
theorem cal__law_named (Fc : Fx K mg) : C8.Cal P w K mg base 3 "_law_named" (spOf1 K 2 s__law_named) [] := by
  obtain ⟨fd, F⟩ : ∃ fd, FunD K "_law_named" "_law_named" (defArgs (top 53)) (defBody (top 53)) (defScope (top 53)) [] [] (He.fAd K ("_law_named", none)) fd := let ⟨_, X, G, c⟩ := Fc; c.def_ 24 (d := dfn "_law_named" 53) rfl
  have hm : mg "_law_named" = some (.ref (He.fAd K ("_law_named", none))) := let ⟨_, X, G, c⟩ := Fc; He.glo_ok X G (c.fact 24 (f := .glo "_law_named") rfl)
  have scS := sc__law_named
  refine fn_z1 F hm scS rfl (by decide) (FunD.bindsN F fun _ _ _ _ _ _ us hl => match us, hl with | [_, _], _ => rfl) (fun cdv A outer s H E hr => ?_) p__law_named
  exact (lss_cons (ls_set scS.nd rfl (.inr rfl) (le_call1 (cal__law_mixed Fc) hr (by decide) rfl rfl (.inl rfl) (els_one (PE.lv (le_lstRg1 rfl rfl (fr_list Fc) rfl (fr_range Fc) (PE.lv (le_ix (hr.uu 1) (lo_nm rfl (.inl rfl)) (PE.lo lv_int))))) els_nil))) (lss_one (ls_ret (le_call (cal__law_web Fc) hr (by decide) rfl (els_one (PE.lv (le_ix (hr.uu 1) (lo_nm rfl (.inl rfl)) (PE.lo lv_int))) (els_one (PE.lv (le_lc (own := [("a", 3), ("b", 4)]) rfl scS.nd (li_seq (PE.lv (le_ix (hr.uu 1) (lo_nm rfl (.inl rfl)) (PE.lo lv_int)))) (blkOk_by (by kernel_rfl)) (by decide) (fun _ _ _ _ _ => (lg_tup rfl (lgs_cons (lg_nm scS.nd rfl (.inl rfl)) (lgs_cons (lg_nm scS.nd rfl (.inl rfl)) lgs_nil)))) (fun _ _ _ _ _ => lts_nil) (fun _ _ _ _ _ => (PE.lv (le_tup (els_one (PE.lv (le_ix (hr.uu 1) (lo_nm rfl (.inr (.inl rfl))) (lo_nm rfl (.inl rfl)))) (els_one (PE.lv (le_ix (hr.uu 1) (lo_nm rfl (.inr (.inl rfl))) (lo_nm rfl (.inl rfl)))) els_nil))))))) els_nil))))))
theorem sc_count_pairings : FnScope ["web"] ["web"] (defScope (top 43)) := C8.fnScope_by (by decide +kernel)
theorem cal_count_pairings (Fc : Fx K mg) : C8.Cal P w K mg base 6 "count_pairings" (spOf K 1 s_count_pairings) [] := by
  obtain ⟨fd, F⟩ : ∃ fd, FunD K "count_pairings" "count_pairings" (defArgs (top 43)) (defBody (top 43)) (defScope (top 43)) [] [] (He.fAd K ("count_pairings", none)) fd := let ⟨_, X, G, c⟩ := Fc; c.def_ 25 (d := dfn "count_pairings" 43) rfl
  have hm : mg "count_pairings" = some (.ref (He.fAd K ("count_pairings", none))) := let ⟨_, X, G, c⟩ := Fc; He.glo_ok X G (c.fact 25 (f := .glo "count_pairings") rfl)
  have scS := sc_count_pairings
  refine fn_z F hm scS rfl (by decide) (FunD.bindsN F fun _ _ _ _ _ _ us hl => match us, hl with | [_], _ => rfl) (fun cdv A outer s H E hr => ?_) p_count_pairings
  exact (lss_cons (ls_expr (le_call (cal_require_web Fc) hr (by decide) rfl (els_one (lv_nm rfl (.inl rfl)) els_nil))) (lss_one (ls_ret (le_callB (cr_sum rfl) ops_sum rfl (fr_sum Fc) bt_sum (los_cons (PE.lo (PE.lv (le_call (cal_counts_in Fc) hr (by decide) rfl (els_one (lv_nm rfl (.inl rfl)) els_nil)))) los_nil)))))
theorem sc__law_ladder_right : FnScope ["dice", "n", "pairs", "web", "x"] ["dice"] (defScope (top 62)) := C8.fnScope_by (by decide +kernel)
theorem cal__law_ladder_right (Fc : Fx K mg) : C8.Cal P w K mg base 7 "_law_ladder_right" (spOf1 K 1 s__law_ladder_right) [] := by
  obtain ⟨fd, F⟩ : ∃ fd, FunD K "_law_ladder_right" "_law_ladder_right" (defArgs (top 62)) (defBody (top 62)) (defScope (top 62)) [] [] (He.fAd K ("_law_ladder_right", none)) fd := let ⟨_, X, G, c⟩ := Fc; c.def_ 26 (d := dfn "_law_ladder_right" 62) rfl
  have hm : mg "_law_ladder_right" = some (.ref (He.fAd K ("_law_ladder_right", none))) := let ⟨_, X, G, c⟩ := Fc; He.glo_ok X G (c.fact 26 (f := .glo "_law_ladder_right") rfl)
  have scS := sc__law_ladder_right
  refine fn_z1 F hm scS rfl (by decide) (FunD.bindsN F fun _ _ _ _ _ _ us hl => match us, hl with | [_], _ => rfl) (fun cdv A outer s H E hr => ?_) p__law_ladder_right
  exact (lss_cons (ls_set scS.nd rfl (.inr rfl) (le_bin ops_add op_addA (PE.lo lv_int) (PE.lo (PE.lv (le_call1 (cal__law_roll Fc) hr (by decide) rfl rfl (.inl rfl) (els_one lv_int els_nil)))))) (lss_cons (ls_set scS.nd rfl (.inl rfl) (le_bin ops_add op_addA (PE.lo (PE.lv (le_bin ops_add op_addA (PE.lo (PE.lv (le_lc (own := [("x", 4)]) rfl scS.nd (li_rng1 rfl (fr_range Fc) (lv_nm rfl (.inr (.inl rfl)))) (blkOk_by (by kernel_rfl)) (by decide) (fun _ _ _ _ _ => (lg_nm scS.nd rfl (.inl rfl))) (fun _ _ _ _ _ => lts_nil) (fun _ _ _ _ _ => (PE.lv (le_tup (els_one (lv_nm rfl (.inl rfl)) (els_one (PE.lv (le_bin ops_add op_addA (lo_nm rfl (.inl rfl)) (lo_nm rfl (.inr (.inl rfl))))) els_nil)))))))) (PE.lo (PE.lv (le_lc (own := [("x", 4)]) rfl scS.nd (li_rng1 rfl (fr_range Fc) (PE.lv (le_bin ops_I0 op_sub (lo_nm rfl (.inr (.inl rfl))) (PE.lo lv_int)))) (blkOk_by (by kernel_rfl)) (by decide) (fun _ _ _ _ _ => (lg_nm scS.nd rfl (.inl rfl))) (fun _ _ _ _ _ => lts_nil) (fun _ _ _ _ _ => (PE.lv (le_tup (els_one (lv_nm rfl (.inl rfl)) (els_one (PE.lv (le_bin ops_add op_addA (lo_nm rfl (.inl rfl)) (PE.lo lv_int))) els_nil))))))))))) (PE.lo (PE.lv (le_lc (own := [("x", 4)]) rfl scS.nd (li_rng1 rfl (fr_range Fc) (PE.lv (le_bin ops_I0 op_sub (lo_nm rfl (.inr (.inl rfl))) (PE.lo lv_int)))) (blkOk_by (by kernel_rfl)) (by decide) (fun _ _ _ _ _ => (lg_nm scS.nd rfl (.inl rfl))) (fun _ _ _ _ _ => lts_nil) (fun _ _ _ _ _ => (PE.lv (le_tup (els_one (PE.lv (le_bin ops_add op_addA (lo_nm rfl (.inr (.inl rfl))) (lo_nm rfl (.inl rfl)))) (els_one (PE.lv (le_bin ops_add op_addA (PE.lo (PE.lv (le_bin ops_add op_addA (lo_nm rfl (.inr (.inl rfl))) (lo_nm rfl (.inl rfl))))) (PE.lo lv_int))) els_nil)))))))))) (lss_cons (ls_set scS.nd rfl (.inl rfl) (le_call1 (cal__law_named Fc) hr (by decide) rfl rfl (.inl rfl) (els_one (PE.lv (le_call (cal__law_web Fc) hr (by decide) rfl (els_one (PE.lv (le_bin ops_mul op_mulA (PE.lo lv_int) (lo_nm rfl (.inr (.inl rfl))))) (els_one (lv_nm rfl (.inl rfl)) els_nil)))) els_nil))) (lss_one (ls_ret (le_cmp ops_eq (op_eqD (hr.uu 64)) (nomark _) (PE.lo (PE.lv (le_lst (els_one (PE.lv (le_call (cal_count_pairings Fc) hr (by decide) rfl (els_one (lv_nm rfl (.inl rfl)) els_nil))) (els_one (PE.lv (le_callB call_lenA ops_len rfl (fr_len Fc) bt_len (los_cons (PE.lo (PE.lv (le_call (cal_full_pairings Fc) hr (by decide) rfl (els_one (lv_nm rfl (.inl rfl)) els_nil)))) los_nil))) els_nil))))) (PE.lo (PE.lv (le_lst (els_one (PE.lv (le_ix (hr.uu 1) (PE.lo (PE.lv (le_tup (els_one lv_int (els_one lv_int (els_one lv_int (els_one lv_int (els_one lv_int els_nil)))))))) (PE.lo (PE.lv (le_bin ops_I0 op_sub (lo_nm rfl (.inr (.inl rfl))) (PE.lo lv_int)))))) (els_one (PE.lv (le_ix (hr.uu 1) (PE.lo (PE.lv (le_tup (els_one lv_int (els_one lv_int (els_one lv_int (els_one lv_int (els_one lv_int els_nil)))))))) (PE.lo (PE.lv (le_bin ops_I0 op_sub (lo_nm rfl (.inr (.inl rfl))) (PE.lo lv_int)))))) els_nil)))))))))))
theorem sc__law_pairings : FnScope ["web", "found", "i", "a", "b", "some", "j"] ["web"] (defScope (top 57)) := C8.fnScope_by (by decide +kernel)
theorem cal__law_pairings (Fc : Fx K mg) : C8.Cal P w K mg base 1 "_law_pairings" (spOf K 1 s__law_pairings) [] := by
  obtain ⟨fd, F⟩ : ∃ fd, FunD K "_law_pairings" "_law_pairings" (defArgs (top 57)) (defBody (top 57)) (defScope (top 57)) [] [] (He.fAd K ("_law_pairings", none)) fd := let ⟨_, X, G, c⟩ := Fc; c.def_ 27 (d := dfn "_law_pairings" 57) rfl
  have hm : mg "_law_pairings" = some (.ref (He.fAd K ("_law_pairings", none))) := let ⟨_, X, G, c⟩ := Fc; He.glo_ok X G (c.fact 27 (f := .glo "_law_pairings") rfl)
  have scS := sc__law_pairings
  refine fn_z F hm scS rfl (by decide) (FunD.bindsN F fun _ _ _ _ _ _ us hl => match us, hl with | [_], _ => rfl) (fun cdv A outer s H E hr => ?_) p__law_pairings
  exact (lss_cons (ls_set scS.nd rfl (.inl rfl) (le_lst (els_one (PE.lv (le_tup els_nil)) els_nil))) (lss_cons (ls_for .never rfl (li_enum rfl (fr_enumerate Fc) (PE.lv (le_ix (hr.uu 1) (lo_nm rfl (.inr (.inl rfl))) (PE.lo lv_int)))) (lg_tup rfl (lgs_cons (lg_nm scS.nd rfl (.inr rfl)) (lgs_cons (lg_tup rfl (lgs_cons (lg_nm scS.nd rfl (.inr rfl)) (lgs_cons (lg_nm scS.nd rfl (.inr rfl)) lgs_nil))) lgs_nil))) (lss_one (ls_set scS.nd rfl (.inl rfl) (le_bin ops_add op_addA (lo_nm rfl (.inl rfl)) (PE.lo (PE.lv (le_lc (own := [("some", 5)]) rfl scS.nd (li_seq (lv_nm rfl (.inl rfl))) (blkOk_by (by kernel_rfl)) (by decide) (fun _ _ _ _ _ => (lg_nm scS.nd rfl (.inl rfl))) (fun _ _ _ _ _ => (lts_one (lb_cmp ops_eq (op_eqD (hr.uu 64)) (nomark _) (PE.lo (PE.lv (le_lc (own := [("j", 6)]) rfl scS.nd (li_seq (lv_nm rfl (.inl rfl))) (blkOk_by (by kernel_rfl)) (by decide) (fun _ _ _ _ _ => (lg_nm scS.nd rfl (.inl rfl))) (fun _ _ _ _ _ => (lts_one (PW.lb (lw_or (lb_cmp ops_in (op_inA (hr.uu 65)) (by with_unfolding_all rfl) (lo_nm rfl (.inr (.inl rfl))) (PE.lo (PE.lv (le_ix (hr.uu 1) (PE.lo (PE.lv (le_ix (hr.uu 1) (lo_nm rfl (.inr (.inl rfl))) (PE.lo lv_int)))) (lo_nm rfl (.inl rfl)))))) (lw_or1 (lb_cmp ops_in (op_inA (hr.uu 65)) (by with_unfolding_all rfl) (lo_nm rfl (.inr (.inl rfl))) (PE.lo (PE.lv (le_ix (hr.uu 1) (PE.lo (PE.lv (le_ix (hr.uu 1) (lo_nm rfl (.inr (.inl rfl))) (PE.lo lv_int)))) (lo_nm rfl (.inl rfl))))))))))) (fun _ _ _ _ _ => lv_int)))) (PE.lo (PE.lv (le_lst els_nil)))))) (fun _ _ _ _ _ => (PE.lv (le_bin ops_add op_addA (lo_nm rfl (.inl rfl)) (PE.lo (PE.lv (le_tup (els_one (lv_nm rfl (.inr (.inl rfl))) els_nil)))))))))))))) (lss_one (ls_ret (le_callB (cr_sorted rfl (hr.uu 3)) ops_sorted rfl (fr_sorted Fc) bt_sorted (los_cons (lo_nm rfl (.inl rfl)) los_nil))))))
theorem sc__law_regular_right : FnScope ["dice", "m", "most", "pairs", "web", "whole", "turn", "x", "to", "some"] ["dice"] (defScope (top 63)) := C8.fnScope_by (by decide +kernel)
theorem cal__law_regular_right (Fc : Fx K mg) : C8.Cal P w K mg base 7 "_law_regular_right" (spOf1 K 1 s__law_regular_right) [] := by
  obtain ⟨fd, F⟩ : ∃ fd, FunD K "_law_regular_right" "_law_regular_right" (defArgs (top 63)) (defBody (top 63)) (defScope (top 63)) [] [] (He.fAd K ("_law_regular_right", none)) fd := let ⟨_, X, G, c⟩ := Fc; c.def_ 28 (d := dfn "_law_regular_right" 63) rfl
  have hm : mg "_law_regular_right" = some (.ref (He.fAd K ("_law_regular_right", none))) := let ⟨_, X, G, c⟩ := Fc; He.glo_ok X G (c.fact 28 (f := .glo "_law_regular_right") rfl)
  have scS := sc__law_regular_right
  refine fn_z1 F hm scS rfl (by decide) (FunD.bindsN F fun _ _ _ _ _ _ us hl => match us, hl with | [_], _ => rfl) (fun cdv A outer s H E hr => ?_) p__law_regular_right
  exact (lss_cons (ls_set scS.nd rfl (.inr rfl) (le_bin ops_add op_addA (PE.lo lv_int) (PE.lo (PE.lv (le_call1 (cal__law_roll Fc) hr (by decide) rfl rfl (.inr (.inl rfl)) (els_one lv_int els_nil)))))) (lss_cons (ls_set scS.nd rfl (.inl rfl) (le_bin ops_add op_addA (PE.lo lv_int) (PE.lo (PE.lv (le_call1 (cal__law_roll Fc) hr (by decide) rfl rfl (.inr (.inl rfl)) (els_one (PE.lv (le_callB (call_minA rfl) ops_min rfl (fr_min Fc) bt_min (los_cons (PE.lo lv_int) (los_cons (PE.lo (PE.lv (le_bin ops_fdv op_fdivW (PE.lo lv_int) (lo_nm rfl (.inr (.inl rfl)))))) los_nil)))) els_nil)))))) (lss_cons (ls_set scS.nd rfl (.inl rfl) (le_sumL rfl rfl (fr_sum Fc) (PE.lv (le_lc (own := [("turn", 6)]) rfl scS.nd (li_rng1 rfl (fr_range Fc) (lv_nm rfl (.inl rfl))) (blkOk_by (by kernel_rfl)) (by decide) (fun _ _ _ _ _ => (lg_nm scS.nd rfl (.inl rfl))) (fun _ _ _ _ _ => lts_nil) (fun _ _ _ _ _ => (PE.lv (le_lc (own := [("x", 7), ("to", 8)]) rfl scS.nd (li_enum rfl (fr_enumerate Fc) (PE.lv (le_call1 (cal__law_mixed Fc) hr (by decide) rfl rfl (.inr (.inl rfl)) (els_one (PE.lv (le_lstRg1 rfl rfl (fr_list Fc) rfl (fr_range Fc) (lv_nm rfl (.inr (.inl rfl))))) els_nil)))) (blkOk_by (by kernel_rfl)) (by decide) (fun _ _ _ _ _ => (lg_tup rfl (lgs_cons (lg_nm scS.nd rfl (.inl rfl)) (lgs_cons (lg_nm scS.nd rfl (.inl rfl)) lgs_nil)))) (fun _ _ _ _ _ => lts_nil) (fun _ _ _ _ _ => (PE.lv (le_tup (els_one (lv_nm rfl (.inl rfl)) (els_one (PE.lv (le_bin ops_add op_addA (lo_nm rfl (.inr (.inl rfl))) (lo_nm rfl (.inl rfl)))) els_nil)))))))))) (PE.lv (le_lst els_nil)))) (lss_cons (ls_set scS.nd rfl (.inl rfl) (le_call1 (cal__law_named Fc) hr (by decide) rfl rfl (.inr (.inl rfl)) (els_one (PE.lv (le_call (cal__law_web Fc) hr (by decide) rfl (els_one (PE.lv (le_bin ops_mul op_mulA (PE.lo lv_int) (lo_nm rfl (.inr (.inl rfl))))) (els_one (lv_nm rfl (.inl rfl)) els_nil)))) els_nil))) (lss_cons (ls_set scS.nd rfl (.inl rfl) (le_call (cal__law_pairings Fc) hr (by decide) rfl (els_one (lv_nm rfl (.inl rfl)) els_nil))) (lss_one (ls_ret (le_and (PE.lv (le_cmp ops_B op_ge (nomark _) (PE.lo (PE.lv (le_callB call_lenA ops_len rfl (fr_len Fc) bt_len (los_cons (PE.lo (PE.lv (le_call (cal_full_pairings Fc) hr (by decide) rfl (els_one (lv_nm rfl (.inl rfl)) els_nil)))) los_nil)))) (lo_nm rfl (.inl rfl)))) (le_one (le_cmp ops_eq (op_eqD (hr.uu 64)) (nomark _) (PE.lo (PE.lv (le_callB call_lenA ops_len rfl (fr_len Fc) bt_len (los_cons (PE.lo (PE.lv (le_call (cal_full_pairings Fc) hr (by decide) rfl (els_one (lv_nm rfl (.inl rfl)) els_nil)))) los_nil)))) (PE.lo (PE.lv (le_callB call_lenA ops_len rfl (fr_len Fc) bt_len (los_cons (PE.lo (PE.lv (le_lc (own := [("some", 9)]) rfl scS.nd (li_seq (lv_nm rfl (.inl rfl))) (blkOk_by (by kernel_rfl)) (by decide) (fun _ _ _ _ _ => (lg_nm scS.nd rfl (.inl rfl))) (fun _ _ _ _ _ => (lts_one (lb_cmp ops_eq (op_eqD (hr.uu 64)) (nomark _) (PE.lo (PE.lv (le_callB call_lenA ops_len rfl (fr_len Fc) bt_len (los_cons (lo_nm rfl (.inl rfl)) los_nil)))) (lo_nm rfl (.inr (.inl rfl)))))) (fun _ _ _ _ _ => (lv_nm rfl (.inl rfl)))))) los_nil))))))))))))))
theorem sc_is_web : FnScope ["value"] ["value"] (defScope (top 30)) := C8.fnScope_by (by decide +kernel)
theorem cal_is_web (Fc : Fx K mg) : C8.Cal P w K mg base 5 "is_web" (spOf K 1 s_is_web) [] := by
  obtain ⟨fd, F⟩ : ∃ fd, FunD K "is_web" "is_web" (defArgs (top 30)) (defBody (top 30)) (defScope (top 30)) [] [] (He.fAd K ("is_web", none)) fd := let ⟨_, X, G, c⟩ := Fc; c.def_ 29 (d := dfn "is_web" 30) rfl
  have hm : mg "is_web" = some (.ref (He.fAd K ("is_web", none))) := let ⟨_, X, G, c⟩ := Fc; He.glo_ok X G (c.fact 29 (f := .glo "is_web") rfl)
  have scS := sc_is_web
  refine fn_z F hm scS rfl (by decide) (FunD.bindsN F fun _ _ _ _ _ _ us hl => match us, hl with | [_], _ => rfl) (fun cdv A outer s H E hr => ?_) p_is_web
  exact (lss_one (ls_ret (le_call (cal_is_web_in Fc) hr (by decide) rfl (els_one (lv_nm rfl (.inl rfl)) els_nil))))
theorem sc_most_upto : FnScope ["web", "row"] ["web"] (defScope (top 42)) := C8.fnScope_by (by decide +kernel)
theorem cal_most_upto (Fc : Fx K mg) : C8.Cal P w K mg base 3 "most_upto" (spOf K 1 s_most_upto) [] := by
  obtain ⟨fd, F⟩ : ∃ fd, FunD K "most_upto" "most_upto" (defArgs (top 42)) (defBody (top 42)) (defScope (top 42)) [] [] (He.fAd K ("most_upto", none)) fd := let ⟨_, X, G, c⟩ := Fc; c.def_ 30 (d := dfn "most_upto" 42) rfl
  have hm : mg "most_upto" = some (.ref (He.fAd K ("most_upto", none))) := let ⟨_, X, G, c⟩ := Fc; He.glo_ok X G (c.fact 30 (f := .glo "most_upto") rfl)
  have scS := sc_most_upto
  refine fn_z F hm scS rfl (by decide) (FunD.bindsN F fun _ _ _ _ _ _ us hl => match us, hl with | [_], _ => rfl) (fun cdv A outer s H E hr => ?_) p_most_upto
  exact (lss_one (ls_ret (le_lc (own := [("row", 1)]) rfl scS.nd (li_seq (PE.lv (le_call (cal_counts_upto Fc) hr (by decide) rfl (els_one (lv_nm rfl (.inl rfl)) els_nil)))) (blkOk_by (by kernel_rfl)) (by decide) (fun _ _ _ _ _ => (lg_nm scS.nd rfl (.inl rfl))) (fun _ _ _ _ _ => lts_nil) (fun _ _ _ _ _ => (PE.lv (le_bin ops_I0 op_sub (PE.lo (PE.lv (le_callB call_lenA ops_len rfl (fr_len Fc) bt_len (los_cons (lo_nm rfl (.inl rfl)) los_nil)))) (PE.lo lv_int)))))))
theorem sc_most_paired : FnScope ["web"] ["web"] (defScope (top 47)) := C8.fnScope_by (by decide +kernel)
theorem cal_most_paired (Fc : Fx K mg) : C8.Cal P w K mg base 6 "most_paired" (spOf K 1 s_most_paired) [] := by
  obtain ⟨fd, F⟩ : ∃ fd, FunD K "most_paired" "most_paired" (defArgs (top 47)) (defBody (top 47)) (defScope (top 47)) [] [] (He.fAd K ("most_paired", none)) fd := let ⟨_, X, G, c⟩ := Fc; c.def_ 31 (d := dfn "most_paired" 47) rfl
  have hm : mg "most_paired" = some (.ref (He.fAd K ("most_paired", none))) := let ⟨_, X, G, c⟩ := Fc; He.glo_ok X G (c.fact 31 (f := .glo "most_paired") rfl)
  have scS := sc_most_paired
  refine fn_z F hm scS rfl (by decide) (FunD.bindsN F fun _ _ _ _ _ _ us hl => match us, hl with | [_], _ => rfl) (fun cdv A outer s H E hr => ?_) p_most_paired
  exact (lss_cons (ls_expr (le_call (cal_require_web Fc) hr (by decide) rfl (els_one (lv_nm rfl (.inl rfl)) els_nil))) (lss_one (ls_ret (le_ix (hr.uu 1) (PE.lo (PE.lv (le_call (cal_most_upto Fc) hr (by decide) rfl (els_one (lv_nm rfl (.inl rfl)) els_nil)))) (PE.lo (PE.lv (le_un ops_U un_neg (PE.lo lv_int))))))))
theorem sc__law_are_told : FnScope ["web", "due", "full", "at"] ["web", "due"] (defScope (top 59)) := C8.fnScope_by (by decide +kernel)
theorem cal__law_are_told (Fc : Fx K mg) : C8.Cal P w K mg base 7 "_law_are_told" (spOf K 2 s__law_are_told) [] := by
  obtain ⟨fd, F⟩ : ∃ fd, FunD K "_law_are_told" "_law_are_told" (defArgs (top 59)) (defBody (top 59)) (defScope (top 59)) [] [] (He.fAd K ("_law_are_told", none)) fd := let ⟨_, X, G, c⟩ := Fc; c.def_ 32 (d := dfn "_law_are_told" 59) rfl
  have hm : mg "_law_are_told" = some (.ref (He.fAd K ("_law_are_told", none))) := let ⟨_, X, G, c⟩ := Fc; He.glo_ok X G (c.fact 32 (f := .glo "_law_are_told") rfl)
  have scS := sc__law_are_told
  refine fn_z F hm scS rfl (by decide) (FunD.bindsN F fun _ _ _ _ _ _ us hl => match us, hl with | [_, _], _ => rfl) (fun cdv A outer s H E hr => ?_) p__law_are_told
  exact (lss_cons (ls_set scS.nd rfl (.inl rfl) (le_if (PW.lb (lw_and (lb_cmp ops_eq (op_eqD (hr.uu 64)) (nomark _) (PE.lo (PE.lv (le_bin ops_I op_mod (PE.lo (PE.lv (le_ix (hr.uu 1) (lo_nm rfl (.inl rfl)) (PE.lo lv_int)))) (PE.lo lv_int)))) (PE.lo lv_int)) (lw_and1 (lb_cmp ops_B op_gt (nomark _) (PE.lo (PE.lv (le_callB call_lenA ops_len rfl (fr_len Fc) bt_len (los_cons (lo_nm rfl (.inr (.inl rfl))) los_nil)))) (PE.lo (PE.lv (le_bin ops_fdv op_fdivW (PE.lo (PE.lv (le_ix (hr.uu 1) (lo_nm rfl (.inl rfl)) (PE.lo lv_int)))) (PE.lo lv_int)))))))) (le_ix (hr.uu 1) (lo_nm rfl (.inr (.inl rfl))) (PE.lo (PE.lv (le_bin ops_fdv op_fdivW (PE.lo (PE.lv (le_ix (hr.uu 1) (lo_nm rfl (.inl rfl)) (PE.lo lv_int)))) (PE.lo lv_int))))) (PE.le lv_int))) (lss_cons (ls_if (PW.lb (lw_or (lb_cmp ops_isNot op_isNotA (nomark _) (PE.lo (PE.lv (le_call (cal_is_web Fc) hr (by decide) rfl (els_one (lv_nm rfl (.inl rfl)) els_nil)))) (PE.lo lv_bl)) (lw_or (lb_cmp ops_ne (op_neD (hr.uu 64)) (nomark _) (PE.lo (PE.lv (le_callTy call_list_of ops_list rfl (fr_list Fc) bt_list (los_cons (PE.lo (PE.lv (le_call (cal_count_by_ties Fc) hr (by decide) rfl (els_one (lv_nm rfl (.inl rfl)) els_nil)))) los_nil)))) (lo_nm rfl (.inr (.inl rfl)))) (lw_or (lb_cmp ops_ne (op_neD (hr.uu 64)) (nomark _) (PE.lo (PE.lv (le_call (cal_count_pairings Fc) hr (by decide) rfl (els_one (lv_nm rfl (.inl rfl)) els_nil)))) (PE.lo (PE.lv (le_callB (cr_sum rfl) ops_sum rfl (fr_sum Fc) bt_sum (los_cons (lo_nm rfl (.inr (.inl rfl))) los_nil))))) (lw_or (lb_cmp ops_ne (op_neD (hr.uu 64)) (nomark _) (PE.lo (PE.lv (le_call (cal_most_paired Fc) hr (by decide) rfl (els_one (lv_nm rfl (.inl rfl)) els_nil)))) (PE.lo (PE.lv (le_bin ops_I0 op_sub (PE.lo (PE.lv (le_callB call_lenA ops_len rfl (fr_len Fc) bt_len (los_cons (lo_nm rfl (.inr (.inl rfl))) los_nil)))) (PE.lo lv_int))))) (lw_or1 (lb_cmp ops_ne (op_neD (hr.uu 64)) (nomark _) (PE.lo (PE.lv (le_callB call_lenA ops_len rfl (fr_len Fc) bt_len (los_cons (PE.lo (PE.lv (le_call (cal_full_pairings Fc) hr (by decide) rfl (els_one (lv_nm rfl (.inl rfl)) els_nil)))) los_nil)))) (lo_nm rfl (.inl rfl))))))))) (lss_one (ls_ret (PE.le lv_bl))) lss_nil) (lss_one (ls_ret (le_cmp ops_eq (op_eqD (hr.uu 64)) (nomark _) (PE.lo (PE.lv (le_lc (own := [("at", 3)]) rfl scS.nd (li_rng2 rfl (fr_range Fc) lv_int (PE.lv (le_bin ops_I0 op_sub (PE.lo (PE.lv (le_callB call_lenA ops_len rfl (fr_len Fc) bt_len (los_cons (lo_nm rfl (.inr (.inl rfl))) los_nil)))) (PE.lo lv_int)))) (blkOk_by (by kernel_rfl)) (by decide) (fun _ _ _ _ _ => (lg_nm scS.nd rfl (.inl rfl))) (fun _ _ _ _ _ => (lts_one (lb_cmp ops_lt (op_ltA (hr.uu 0)) (nomark _) (PE.lo (PE.lv (le_bin ops_mul op_mulA (PE.lo (PE.lv (le_ix (hr.uu 1) (lo_nm rfl (.inr (.inl rfl))) (lo_nm rfl (.inl rfl))))) (PE.lo (PE.lv (le_ix (hr.uu 1) (lo_nm rfl (.inr (.inl rfl))) (lo_nm rfl (.inl rfl)))))))) (PE.lo (PE.lv (le_bin ops_mul op_mulA (PE.lo (PE.lv (le_ix (hr.uu 1) (lo_nm rfl (.inr (.inl rfl))) (PE.lo (PE.lv (le_bin ops_I0 op_sub (lo_nm rfl (.inl rfl)) (PE.lo lv_int))))))) (PE.lo (PE.lv (le_ix (hr.uu 1) (lo_nm rfl (.inr (.inl rfl))) (PE.lo (PE.lv (le_bin ops_add op_addA (lo_nm rfl (.inl rfl)) (PE.lo lv_int))))))))))))) (fun _ _ _ _ _ => (lv_nm rfl (.inl rfl)))))) (PE.lo (PE.lv (le_lst els_nil))))))))
theorem sc__law_drawn : FnScope ["dice", "many", "pairs", "turn", "a"] ["dice"] (defScope (top 60)) := C8.fnScope_by (by decide +kernel)
theorem cal__law_drawn (Fc : Fx K mg) : C8.Cal P w K mg base 2 "_law_drawn" (spOf1 K 1 s__law_drawn) [] := by
  obtain ⟨fd, F⟩ : ∃ fd, FunD K "_law_drawn" "_law_drawn" (defArgs (top 60)) (defBody (top 60)) (defScope (top 60)) [] [] (He.fAd K ("_law_drawn", none)) fd := let ⟨_, X, G, c⟩ := Fc; c.def_ 33 (d := dfn "_law_drawn" 60) rfl
  have hm : mg "_law_drawn" = some (.ref (He.fAd K ("_law_drawn", none))) := let ⟨_, X, G, c⟩ := Fc; He.glo_ok X G (c.fact 33 (f := .glo "_law_drawn") rfl)
  have scS := sc__law_drawn
  refine fn_z1 F hm scS rfl (by decide) (FunD.bindsN F fun _ _ _ _ _ _ us hl => match us, hl with | [_], _ => rfl) (fun cdv A outer s H E hr => ?_) p__law_drawn
  exact (lss_cons (ls_par rfl scS.nd rfl rfl (by decide) rfl rfl (le_bin ops_add op_addA (PE.lo lv_int) (PE.lo (PE.lv (le_call1 (cal__law_roll Fc) hr (by decide) rfl rfl (.inl rfl) (els_one lv_int els_nil))))) (le_lst els_nil) rfl) (lss_cons (ls_for .never rfl (li_rng1 rfl (fr_range Fc) (PE.lv (le_call1 (cal__law_roll Fc) hr (by decide) rfl rfl (.inl rfl) (els_one lv_int els_nil)))) (lg_nm scS.nd rfl (.inl rfl)) (lss_cons (ls_set scS.nd rfl (.inl rfl) (le_call1 (cal__law_roll Fc) hr (by decide) rfl rfl (.inl rfl) (els_one (lv_nm rfl (.inl rfl)) els_nil))) (lss_one (ls_expr (le_app rfl (.inl rfl) (PE.lv (le_tup (els_one (lv_nm rfl (.inl rfl)) (els_one (PE.lv (le_bin ops_I op_mod (PE.lo (PE.lv (le_bin ops_add op_addA (PE.lo (PE.lv (le_bin ops_add op_addA (lo_nm rfl (.inl rfl)) (PE.lo lv_int)))) (PE.lo (PE.lv (le_call1 (cal__law_roll Fc) hr (by decide) rfl rfl (.inl rfl) (els_one (PE.lv (le_bin ops_I0 op_sub (lo_nm rfl (.inl rfl)) (PE.lo lv_int))) els_nil))))))) (lo_nm rfl (.inl rfl)))) els_nil))))))))) (lss_one (ls_ret (le_call (cal__law_web Fc) hr (by decide) rfl (els_one (lv_nm rfl (.inl rfl)) (els_one (lv_nm rfl (.inl rfl)) els_nil)))))))
theorem sc_reached_from : FnScope ["n", "pairs", "x", "found", "waiting", "here", "a", "b", "there", "other"] ["n", "pairs", "x"] (defScope (top 22)) := C8.fnScope_by (by decide +kernel)
theorem cal_reached_from (Fc : Fx K mg) : C8.Cal P w K mg base 1 "reached_from" (spOf K 3 s_reached_from) [] := by
  obtain ⟨fd, F⟩ : ∃ fd, FunD K "reached_from" "reached_from" (defArgs (top 22)) (defBody (top 22)) (defScope (top 22)) [] [] (He.fAd K ("reached_from", none)) fd := let ⟨_, X, G, c⟩ := Fc; c.def_ 34 (d := dfn "reached_from" 22) rfl
  have hm : mg "reached_from" = some (.ref (He.fAd K ("reached_from", none))) := let ⟨_, X, G, c⟩ := Fc; He.glo_ok X G (c.fact 34 (f := .glo "reached_from") rfl)
  have scS := sc_reached_from
  refine fn_z F hm scS rfl (by decide) (FunD.bindsN F fun _ _ _ _ _ _ us hl => match us, hl with | [_, _, _], _ => rfl) (fun cdv A outer s H E hr => ?_) p_reached_from
  exact (lss_cons (ls_par rfl scS.nd rfl rfl (by decide) rfl rfl (le_dis1 (lv_nm rfl (.inl rfl)) lv_bl) (le_lst (els_one (lv_nm rfl (.inl rfl)) els_nil)) rfl) (lss_cons (ls_while .never (lb_cmp ops_ne (op_neD (hr.uu 64)) (nomark _) (lo_nm rfl (.inl rfl)) (PE.lo (PE.lv (le_lst els_nil)))) (lss_cons (ls_set scS.nd rfl (.inl rfl) (le_pop rfl (.inl rfl))) (lss_one (ls_for .never rfl (li_seq (lv_nm rfl (.inl rfl))) (lg_tup rfl (lgs_cons (lg_nm scS.nd rfl (.inl rfl)) (lgs_cons (lg_nm scS.nd rfl (.inl rfl)) lgs_nil))) (lss_one (ls_for .never rfl (li_seq (PE.lv (le_tup (els_one (PE.lv (le_tup (els_one (lv_nm rfl (.inl rfl)) (els_one (lv_nm rfl (.inl rfl)) els_nil)))) (els_one (PE.lv (le_tup (els_one (lv_nm rfl (.inl rfl)) (els_one (lv_nm rfl (.inl rfl)) els_nil)))) els_nil))))) (lg_tup rfl (lgs_cons (lg_nm scS.nd rfl (.inl rfl)) (lgs_cons (lg_nm scS.nd rfl (.inl rfl)) lgs_nil))) (lss_one (ls_if (PW.lb (lw_and (lb_cmp ops_eq (op_eqD (hr.uu 64)) (nomark _) (lo_nm rfl (.inl rfl)) (lo_nm rfl (.inl rfl))) (lw_and1 (lb_cmp ops_in (op_notInA (hr.uu 65)) (by with_unfolding_all rfl) (lo_nm rfl (.inl rfl)) (lo_nm rfl (.inl rfl)))))) (lss_cons (ls_asg lv_bl (lg_ix (hr.uu 1) rfl (.inl rfl) (lv_nm rfl (.inl rfl)))) (lss_one (ls_expr (le_app rfl (.inl rfl) (lv_nm rfl (.inl rfl)))))) lss_nil)))))))) (lss_one (ls_ret (le_callB (cr_sorted rfl (hr.uu 3)) ops_sorted rfl (fr_sorted Fc) bt_sorted (los_cons (lo_nm rfl (.inl rfl)) los_nil))))))
theorem sc_pieces_in : FnScope ["n", "pairs", "found", "met", "x", "piece", "y"] ["n", "pairs"] (defScope (top 23)) := C8.fnScope_by (by decide +kernel)
theorem cal_pieces_in (Fc : Fx K mg) : C8.Cal P w K mg base 2 "pieces_in" (spOf K 2 s_pieces_in) [] := by
  obtain ⟨fd, F⟩ : ∃ fd, FunD K "pieces_in" "pieces_in" (defArgs (top 23)) (defBody (top 23)) (defScope (top 23)) [] [] (He.fAd K ("pieces_in", none)) fd := let ⟨_, X, G, c⟩ := Fc; c.def_ 35 (d := dfn "pieces_in" 23) rfl
  have hm : mg "pieces_in" = some (.ref (He.fAd K ("pieces_in", none))) := let ⟨_, X, G, c⟩ := Fc; He.glo_ok X G (c.fact 35 (f := .glo "pieces_in") rfl)
  have scS := sc_pieces_in
  refine fn_z F hm scS rfl (by decide) (FunD.bindsN F fun _ _ _ _ _ _ us hl => match us, hl with | [_, _], _ => rfl) (fun cdv A outer s H E hr => ?_) p_pieces_in
  exact (lss_cons (ls_par rfl scS.nd rfl rfl (by decide) rfl rfl (le_lst els_nil) le_newK rfl) (lss_cons (ls_for .never rfl (li_rng1 rfl (fr_range Fc) (lv_nm rfl (.inl rfl))) (lg_nm scS.nd rfl (.inl rfl)) (lss_one (ls_if (lb_cmp ops_in (op_notInA (hr.uu 65)) (by with_unfolding_all rfl) (lo_nm rfl (.inl rfl)) (lo_nm rfl (.inl rfl))) (lss_cons (ls_set scS.nd rfl (.inl rfl) (le_call (cal_reached_from Fc) hr (by decide) rfl (els_one (lv_nm rfl (.inl rfl)) (els_one (lv_nm rfl (.inl rfl)) (els_one (lv_nm rfl (.inl rfl)) els_nil))))) (lss_cons (ls_expr (le_upd rfl (.inl rfl) (PE.lv (le_dc (own := [("y", 6)]) rfl scS.nd (li_seq (lv_nm rfl (.inl rfl))) (blkOk_by (by kernel_rfl)) (by decide) (fun _ _ _ _ _ => (lg_nm scS.nd rfl (.inl rfl))) (fun _ _ _ _ _ => lts_nil) (fun _ _ _ _ _ => (lv_nm rfl (.inl rfl))) (fun _ _ _ _ _ => lv_bl))))) (lss_one (ls_expr (le_app rfl (.inl rfl) (lv_nm rfl (.inl rfl))))))) lss_nil))) (lss_one (ls_ret (le_mv rfl (.inl rfl))))))
theorem sc_pieces : FnScope ["web", "piece"] ["web"] (defScope (top 33)) := C8.fnScope_by (by decide +kernel)
theorem cal_pieces (Fc : Fx K mg) : C8.Cal P w K mg base 6 "pieces" (spOf K 1 s_pieces) [] := by
  obtain ⟨fd, F⟩ : ∃ fd, FunD K "pieces" "pieces" (defArgs (top 33)) (defBody (top 33)) (defScope (top 33)) [] [] (He.fAd K ("pieces", none)) fd := let ⟨_, X, G, c⟩ := Fc; c.def_ 36 (d := dfn "pieces" 33) rfl
  have hm : mg "pieces" = some (.ref (He.fAd K ("pieces", none))) := let ⟨_, X, G, c⟩ := Fc; He.glo_ok X G (c.fact 36 (f := .glo "pieces") rfl)
  have scS := sc_pieces
  refine fn_z F hm scS rfl (by decide) (FunD.bindsN F fun _ _ _ _ _ _ us hl => match us, hl with | [_], _ => rfl) (fun cdv A outer s H E hr => ?_) p_pieces
  exact (lss_cons (ls_expr (le_call (cal_require_web Fc) hr (by decide) rfl (els_one (lv_nm rfl (.inl rfl)) els_nil))) (lss_one (ls_ret (le_callTy call_tuple_of ops_tuple rfl (fr_tuple Fc) bt_tuple (los_cons (PE.lo (PE.lv (le_lc (own := [("piece", 1)]) rfl scS.nd (li_seq (PE.lv (le_call (cal_pieces_in Fc) hr (by decide) rfl (els_one (PE.lv (le_ix (hr.uu 1) (lo_nm rfl (.inl rfl)) (PE.lo lv_int))) (els_one (PE.lv (le_ix (hr.uu 1) (lo_nm rfl (.inl rfl)) (PE.lo lv_int))) els_nil))))) (blkOk_by (by kernel_rfl)) (by decide) (fun _ _ _ _ _ => (lg_nm scS.nd rfl (.inl rfl))) (fun _ _ _ _ _ => lts_nil) (fun _ _ _ _ _ => (PE.lv (le_callTy call_tuple_of ops_tuple rfl (fr_tuple Fc) bt_tuple (los_cons (lo_nm rfl (.inl rfl)) los_nil))))))) los_nil)))))
theorem sc__law_counts : FnScope ["pairings", "most", "some", "number"] ["pairings"] (defScope (top 58)) := C8.fnScope_by (by decide +kernel)
theorem cal__law_counts (Fc : Fx K mg) : C8.Cal P w K mg base 1 "_law_counts" (spOf K 1 s__law_counts) [] := by
  obtain ⟨fd, F⟩ : ∃ fd, FunD K "_law_counts" "_law_counts" (defArgs (top 58)) (defBody (top 58)) (defScope (top 58)) [] [] (He.fAd K ("_law_counts", none)) fd := let ⟨_, X, G, c⟩ := Fc; c.def_ 37 (d := dfn "_law_counts" 58) rfl
  have hm : mg "_law_counts" = some (.ref (He.fAd K ("_law_counts", none))) := let ⟨_, X, G, c⟩ := Fc; He.glo_ok X G (c.fact 37 (f := .glo "_law_counts") rfl)
  have scS := sc__law_counts
  refine fn_z F hm scS rfl (by decide) (FunD.bindsN F fun _ _ _ _ _ _ us hl => match us, hl with | [_], _ => rfl) (fun cdv A outer s H E hr => ?_) p__law_counts
  exact (lss_cons (ls_set scS.nd rfl (.inl rfl) (le_callB (call_maxA rfl) ops_max rfl (fr_max Fc) bt_max (los_cons (PE.lo (PE.lv (le_lc (own := [("some", 2)]) rfl scS.nd (li_seq (lv_nm rfl (.inr (.inl rfl)))) (blkOk_by (by kernel_rfl)) (by decide) (fun _ _ _ _ _ => (lg_nm scS.nd rfl (.inl rfl))) (fun _ _ _ _ _ => lts_nil) (fun _ _ _ _ _ => (PE.lv (le_callB call_lenA ops_len rfl (fr_len Fc) bt_len (los_cons (lo_nm rfl (.inl rfl)) los_nil))))))) los_nil))) (lss_one (ls_ret (le_lc (own := [("number", 3)]) rfl scS.nd (li_rng1 rfl (fr_range Fc) (PE.lv (le_bin ops_add op_addA (lo_nm rfl (.inl rfl)) (PE.lo lv_int)))) (blkOk_by (by kernel_rfl)) (by decide) (fun _ _ _ _ _ => (lg_nm scS.nd rfl (.inr rfl))) (fun _ _ _ _ _ => lts_nil) (fun _ _ _ _ _ => (PE.lv (le_callB call_lenA ops_len rfl (fr_len Fc) bt_len (los_cons (PE.lo (PE.lv (le_lc (own := [("some", 2)]) rfl scS.nd (li_seq (lv_nm rfl (.inr (.inl rfl)))) (blkOk_by (by kernel_rfl)) (by decide) (fun _ _ _ _ _ => (lg_nm scS.nd rfl (.inl rfl))) (fun _ _ _ _ _ => (lts_one (lb_cmp ops_eq (op_eqD (hr.uu 64)) (nomark _) (PE.lo (PE.lv (le_callB call_lenA ops_len rfl (fr_len Fc) bt_len (los_cons (lo_nm rfl (.inl rfl)) los_nil)))) (lo_nm rfl (.inr (.inl rfl)))))) (fun _ _ _ _ _ => lv_int)))) los_nil))))))))
theorem sc_is_row_of : FnScope ["value", "least", "most", "one"] ["value", "least", "most"] (defScope (top 12)) := C8.fnScope_by (by decide +kernel)
theorem cal_is_row_of (Fc : Fx K mg) : C8.Cal P w K mg base 3 "is_row_of" (spOf K 3 s_is_row_of) [] := by
  obtain ⟨fd, F⟩ : ∃ fd, FunD K "is_row_of" "is_row_of" (defArgs (top 12)) (defBody (top 12)) (defScope (top 12)) [] [] (He.fAd K ("is_row_of", none)) fd := let ⟨_, X, G, c⟩ := Fc; c.def_ 38 (d := dfn "is_row_of" 12) rfl
  have hm : mg "is_row_of" = some (.ref (He.fAd K ("is_row_of", none))) := let ⟨_, X, G, c⟩ := Fc; He.glo_ok X G (c.fact 38 (f := .glo "is_row_of") rfl)
  have scS := sc_is_row_of
  refine fn_z F hm scS rfl (by decide) (FunD.bindsN F fun _ _ _ _ _ _ us hl => match us, hl with | [_, _, _], _ => rfl) (fun cdv A outer s H E hr => ?_) p_is_row_of
  exact (lss_one (ls_ret (le_and (PE.lv (le_isi rfl (fr_isinstance Fc) rfl (fr_tuple Fc) bt_tuple (lo_nm rfl (.inl rfl)))) (le_one (le_callB (cr_all rfl) ops_all rfl (fr_all Fc) bt_all (los_cons (PE.lo (PE.lv (le_lc (own := [("one", 3)]) rfl scS.nd (li_seq (lv_nm rfl (.inl rfl))) (blkOk_by (by kernel_rfl)) (by decide) (fun _ _ _ _ _ => (lg_nm scS.nd rfl (.inl rfl))) (fun _ _ _ _ _ => lts_nil) (fun _ _ _ _ _ => (PE.lv (le_call (cal_is_within Fc) hr (by decide) rfl (els_one (lv_nm rfl (.inl rfl)) (els_one (lv_nm rfl (.inr (.inl rfl))) (els_one (lv_nm rfl (.inr (.inl rfl))) els_nil))))))))) los_nil))))))
theorem sc_is_ascending : FnScope ["items", "one", "other"] ["items"] (defScope (top 11)) := C8.fnScope_by (by decide +kernel)
theorem cal_is_ascending (Fc : Fx K mg) : C8.Cal P w K mg base 1 "is_ascending" (spOf K 1 s_is_ascending) [] := by
  obtain ⟨fd, F⟩ : ∃ fd, FunD K "is_ascending" "is_ascending" (defArgs (top 11)) (defBody (top 11)) (defScope (top 11)) [] [] (He.fAd K ("is_ascending", none)) fd := let ⟨_, X, G, c⟩ := Fc; c.def_ 39 (d := dfn "is_ascending" 11) rfl
  have hm : mg "is_ascending" = some (.ref (He.fAd K ("is_ascending", none))) := let ⟨_, X, G, c⟩ := Fc; He.glo_ok X G (c.fact 39 (f := .glo "is_ascending") rfl)
  have scS := sc_is_ascending
  refine fn_z F hm scS rfl (by decide) (FunD.bindsN F fun _ _ _ _ _ _ us hl => match us, hl with | [_], _ => rfl) (fun cdv A outer s H E hr => ?_) p_is_ascending
  exact (lss_one (ls_ret (le_callB (cr_all rfl) ops_all rfl (fr_all Fc) bt_all (los_cons (PE.lo (PE.lv (le_lc (own := [("one", 1), ("other", 2)]) rfl scS.nd (li_zip rfl (fr_zip Fc) (lv_nm rfl (.inl rfl)) (PE.lv (le_slA (lo_nm rfl (.inl rfl)) (PE.lo lv_int)))) (blkOk_by (by kernel_rfl)) (by decide) (fun _ _ _ _ _ => (lg_tup rfl (lgs_cons (lg_nm scS.nd rfl (.inl rfl)) (lgs_cons (lg_nm scS.nd rfl (.inl rfl)) lgs_nil)))) (fun _ _ _ _ _ => lts_nil) (fun _ _ _ _ _ => (PE.lv (le_cmp ops_lt (op_ltA (hr.uu 0)) (nomark _) (lo_nm rfl (.inl rfl)) (lo_nm rfl (.inl rfl)))))))) los_nil))))
theorem sc_is_rising_row : FnScope ["value", "most"] ["value", "most"] (defScope (top 13)) := C8.fnScope_by (by decide +kernel)
theorem cal_is_rising_row (Fc : Fx K mg) : C8.Cal P w K mg base 4 "is_rising_row" (spOf K 2 s_is_rising_row) [] := by
  obtain ⟨fd, F⟩ : ∃ fd, FunD K "is_rising_row" "is_rising_row" (defArgs (top 13)) (defBody (top 13)) (defScope (top 13)) [] [] (He.fAd K ("is_rising_row", none)) fd := let ⟨_, X, G, c⟩ := Fc; c.def_ 40 (d := dfn "is_rising_row" 13) rfl
  have hm : mg "is_rising_row" = some (.ref (He.fAd K ("is_rising_row", none))) := let ⟨_, X, G, c⟩ := Fc; He.glo_ok X G (c.fact 40 (f := .glo "is_rising_row") rfl)
  have scS := sc_is_rising_row
  refine fn_z F hm scS rfl (by decide) (FunD.bindsN F fun _ _ _ _ _ _ us hl => match us, hl with | [_, _], _ => rfl) (fun cdv A outer s H E hr => ?_) p_is_rising_row
  exact (lss_one (ls_ret (le_and (PE.lv (le_call (cal_is_row_of Fc) hr (by decide) rfl (els_one (lv_nm rfl (.inl rfl)) (els_one lv_int (els_one (lv_nm rfl (.inl rfl)) els_nil))))) (le_one (le_call (cal_is_ascending Fc) hr (by decide) rfl (els_one (lv_nm rfl (.inl rfl)) els_nil))))))
theorem sc_is_lot_in : FnScope ["n", "value"] ["n", "value"] (defScope (top 19)) := C8.fnScope_by (by decide +kernel)
theorem cal_is_lot_in (Fc : Fx K mg) : C8.Cal P w K mg base 5 "is_lot_in" (spOf K 2 s_is_lot_in) [] := by
  obtain ⟨fd, F⟩ : ∃ fd, FunD K "is_lot_in" "is_lot_in" (defArgs (top 19)) (defBody (top 19)) (defScope (top 19)) [] [] (He.fAd K ("is_lot_in", none)) fd := let ⟨_, X, G, c⟩ := Fc; c.def_ 41 (d := dfn "is_lot_in" 19) rfl
  have hm : mg "is_lot_in" = some (.ref (He.fAd K ("is_lot_in", none))) := let ⟨_, X, G, c⟩ := Fc; He.glo_ok X G (c.fact 41 (f := .glo "is_lot_in") rfl)
  have scS := sc_is_lot_in
  refine fn_z F hm scS rfl (by decide) (FunD.bindsN F fun _ _ _ _ _ _ us hl => match us, hl with | [_, _], _ => rfl) (fun cdv A outer s H E hr => ?_) p_is_lot_in
  exact (lss_one (ls_ret (le_call (cal_is_rising_row Fc) hr (by decide) rfl (els_one (lv_nm rfl (.inl rfl)) (els_one (PE.lv (le_bin ops_I0 op_sub (lo_nm rfl (.inl rfl)) (PE.lo lv_int))) els_nil)))))
theorem sc_require_lot : FnScope ["web", "value"] ["web", "value"] (defScope (top 27)) := C8.fnScope_by (by decide +kernel)
theorem cal_require_lot (Fc : Fx K mg) : C8.Cal P w K mg base 6 "require_lot" (spOf K 2 s_require_lot) [] := by
  obtain ⟨fd, F⟩ : ∃ fd, FunD K "require_lot" "require_lot" (defArgs (top 27)) (defBody (top 27)) (defScope (top 27)) [] [] (He.fAd K ("require_lot", none)) fd := let ⟨_, X, G, c⟩ := Fc; c.def_ 42 (d := dfn "require_lot" 27) rfl
  have hm : mg "require_lot" = some (.ref (He.fAd K ("require_lot", none))) := let ⟨_, X, G, c⟩ := Fc; He.glo_ok X G (c.fact 42 (f := .glo "require_lot") rfl)
  have scS := sc_require_lot
  refine fn_z F hm scS rfl (by decide) (FunD.bindsN F fun _ _ _ _ _ _ us hl => match us, hl with | [_, _], _ => rfl) (fun cdv A outer s H E hr => ?_) p_require_lot
  exact (lss_one (ls_if (lb_not (lb_tru (le_call (cal_is_lot_in Fc) hr (by decide) rfl (els_one (PE.lv (le_ix (hr.uu 1) (lo_nm rfl (.inl rfl)) (PE.lo lv_int))) (els_one (lv_nm rfl (.inl rfl)) els_nil))))) lss_never lss_nil))
theorem sc_require_web_and_lot : FnScope ["web", "lot"] ["web", "lot"] (defScope (top 29)) := C8.fnScope_by (by decide +kernel)
theorem cal_require_web_and_lot (Fc : Fx K mg) : C8.Cal P w K mg base 7 "require_web_and_lot" (spOf K 2 s_require_web_and_lot) [] := by
  obtain ⟨fd, F⟩ : ∃ fd, FunD K "require_web_and_lot" "require_web_and_lot" (defArgs (top 29)) (defBody (top 29)) (defScope (top 29)) [] [] (He.fAd K ("require_web_and_lot", none)) fd := let ⟨_, X, G, c⟩ := Fc; c.def_ 43 (d := dfn "require_web_and_lot" 29) rfl
  have hm : mg "require_web_and_lot" = some (.ref (He.fAd K ("require_web_and_lot", none))) := let ⟨_, X, G, c⟩ := Fc; He.glo_ok X G (c.fact 43 (f := .glo "require_web_and_lot") rfl)
  have scS := sc_require_web_and_lot
  refine fn_z F hm scS rfl (by decide) (FunD.bindsN F fun _ _ _ _ _ _ us hl => match us, hl with | [_, _], _ => rfl) (fun cdv A outer s H E hr => ?_) p_require_web_and_lot
  exact (lss_cons (ls_expr (le_call (cal_require_web Fc) hr (by decide) rfl (els_one (lv_nm rfl (.inl rfl)) els_nil))) (lss_one (ls_expr (le_call (cal_require_lot Fc) hr (by decide) rfl (els_one (lv_nm rfl (.inl rfl)) (els_one (lv_nm rfl (.inl rfl)) els_nil))))))
theorem sc_told_web : FnScope ["n", "pairs"] ["n", "pairs"] (defScope (top 21)) := C8.fnScope_by (by decide +kernel)
theorem cal_told_web (Fc : Fx K mg) : C8.Cal P w K mg base 1 "told_web" (spOf K 2 s_told_web) [] := by
  obtain ⟨fd, F⟩ : ∃ fd, FunD K "told_web" "told_web" (defArgs (top 21)) (defBody (top 21)) (defScope (top 21)) [] [] (He.fAd K ("told_web", none)) fd := let ⟨_, X, G, c⟩ := Fc; c.def_ 44 (d := dfn "told_web" 21) rfl
  have hm : mg "told_web" = some (.ref (He.fAd K ("told_web", none))) := let ⟨_, X, G, c⟩ := Fc; He.glo_ok X G (c.fact 44 (f := .glo "told_web") rfl)
  have scS := sc_told_web
  refine fn_z F hm scS rfl (by decide) (FunD.bindsN F fun _ _ _ _ _ _ us hl => match us, hl with | [_, _], _ => rfl) (fun cdv A outer s H E hr => ?_) p_told_web
  exact (lss_one (ls_ret (le_tup (els_one (lv_nm rfl (.inl rfl)) (els_one (PE.lv (le_callTy call_tuple_of ops_tuple rfl (fr_tuple Fc) bt_tuple (los_cons (PE.lo (PE.lv (le_callB (cr_sorted rfl (hr.uu 3)) ops_sorted rfl (fr_sorted Fc) bt_sorted (los_cons (lo_nm rfl (.inl rfl)) los_nil)))) los_nil))) els_nil)))))
theorem sc_part_in : FnScope ["web", "lot", "place", "at", "x", "a", "b"] ["web", "lot"] (defScope (top 24)) := C8.fnScope_by (by decide +kernel)
theorem cal_part_in (Fc : Fx K mg) : C8.Cal P w K mg base 2 "part_in" (spOf K 2 s_part_in) [] := by
  obtain ⟨fd, F⟩ : ∃ fd, FunD K "part_in" "part_in" (defArgs (top 24)) (defBody (top 24)) (defScope (top 24)) [] [] (He.fAd K ("part_in", none)) fd := let ⟨_, X, G, c⟩ := Fc; c.def_ 45 (d := dfn "part_in" 24) rfl
  have hm : mg "part_in" = some (.ref (He.fAd K ("part_in", none))) := let ⟨_, X, G, c⟩ := Fc; He.glo_ok X G (c.fact 45 (f := .glo "part_in") rfl)
  have scS := sc_part_in
  refine fn_z F hm scS rfl (by decide) (FunD.bindsN F fun _ _ _ _ _ _ us hl => match us, hl with | [_, _], _ => rfl) (fun cdv A outer s H E hr => ?_) p_part_in
  exact (lss_cons (ls_set scS.nd rfl (.inr rfl) (le_dc (own := [("at", 3), ("x", 4)]) rfl scS.nd (li_enum rfl (fr_enumerate Fc) (lv_nm rfl (.inl rfl))) (blkOk_by (by kernel_rfl)) (by decide) (fun _ _ _ _ _ => (lg_tup rfl (lgs_cons (lg_nm scS.nd rfl (.inl rfl)) (lgs_cons (lg_nm scS.nd rfl (.inl rfl)) lgs_nil)))) (fun _ _ _ _ _ => lts_nil) (fun _ _ _ _ _ => (lv_nm rfl (.inl rfl))) (fun _ _ _ _ _ => (lv_nm rfl (.inl rfl))))) (lss_one (ls_ret (le_call (cal_told_web Fc) hr (by decide) rfl (els_one (PE.lv (le_callB call_lenA ops_len rfl (fr_len Fc) bt_len (los_cons (lo_nm rfl (.inl rfl)) los_nil))) (els_one (PE.lv (le_lc (own := [("a", 5), ("b", 6)]) rfl scS.nd (li_seq (PE.lv (le_ix (hr.uu 1) (lo_nm rfl (.inl rfl)) (PE.lo lv_int)))) (blkOk_by (by kernel_rfl)) (by decide) (fun _ _ _ _ _ => (lg_tup rfl (lgs_cons (lg_nm scS.nd rfl (.inl rfl)) (lgs_cons (lg_nm scS.nd rfl (.inl rfl)) lgs_nil)))) (fun _ _ _ _ _ => (lts_one (PW.lb (lw_and (lb_cmp ops_in (op_inA (hr.uu 65)) (by with_unfolding_all rfl) (lo_nm rfl (.inl rfl)) (lo_nm rfl (.inr (.inl rfl)))) (lw_and1 (lb_cmp ops_in (op_inA (hr.uu 65)) (by with_unfolding_all rfl) (lo_nm rfl (.inl rfl)) (lo_nm rfl (.inr (.inl rfl))))))))) (fun _ _ _ _ _ => (PE.lv (le_tup (els_one (PE.lv (le_ix (hr.uu 1) (lo_nm rfl (.inr (.inl rfl))) (lo_nm rfl (.inl rfl)))) (els_one (PE.lv (le_ix (hr.uu 1) (lo_nm rfl (.inr (.inl rfl))) (lo_nm rfl (.inl rfl)))) els_nil))))))) els_nil))))))
theorem sc_part_of : FnScope ["web", "lot"] ["web", "lot"] (defScope (top 31)) := C8.fnScope_by (by decide +kernel)
theorem cal_part_of (Fc : Fx K mg) : C8.Cal P w K mg base 8 "part_of" (spOf K 2 s_part_of) [] := by
  obtain ⟨fd, F⟩ : ∃ fd, FunD K "part_of" "part_of" (defArgs (top 31)) (defBody (top 31)) (defScope (top 31)) [] [] (He.fAd K ("part_of", none)) fd := let ⟨_, X, G, c⟩ := Fc; c.def_ 46 (d := dfn "part_of" 31) rfl
  have hm : mg "part_of" = some (.ref (He.fAd K ("part_of", none))) := let ⟨_, X, G, c⟩ := Fc; He.glo_ok X G (c.fact 46 (f := .glo "part_of") rfl)
  have scS := sc_part_of
  refine fn_z F hm scS rfl (by decide) (FunD.bindsN F fun _ _ _ _ _ _ us hl => match us, hl with | [_, _], _ => rfl) (fun cdv A outer s H E hr => ?_) p_part_of
  exact (lss_cons (ls_expr (le_call (cal_require_web_and_lot Fc) hr (by decide) rfl (els_one (lv_nm rfl (.inl rfl)) (els_one (lv_nm rfl (.inl rfl)) els_nil)))) (lss_cons (ls_if (lb_cmp ops_eq (op_eqD (hr.uu 64)) (nomark _) (lo_nm rfl (.inl rfl)) (PE.lo (PE.lv (le_tup els_nil)))) lss_never lss_nil) (lss_one (ls_ret (le_call (cal_part_in Fc) hr (by decide) rfl (els_one (lv_nm rfl (.inl rfl)) (els_one (lv_nm rfl (.inl rfl)) els_nil)))))))
theorem sc_require_tie : FnScope ["web", "i"] ["web", "i"] (defScope (top 28)) := C8.fnScope_by (by decide +kernel)
theorem cal_require_tie (Fc : Fx K mg) : C8.Cal P w K mg base 3 "require_tie" (spOf K 2 s_require_tie) [] := by
  obtain ⟨fd, F⟩ : ∃ fd, FunD K "require_tie" "require_tie" (defArgs (top 28)) (defBody (top 28)) (defScope (top 28)) [] [] (He.fAd K ("require_tie", none)) fd := let ⟨_, X, G, c⟩ := Fc; c.def_ 47 (d := dfn "require_tie" 28) rfl
  have hm : mg "require_tie" = some (.ref (He.fAd K ("require_tie", none))) := let ⟨_, X, G, c⟩ := Fc; He.glo_ok X G (c.fact 47 (f := .glo "require_tie") rfl)
  have scS := sc_require_tie
  refine fn_z F hm scS rfl (by decide) (FunD.bindsN F fun _ _ _ _ _ _ us hl => match us, hl with | [_, _], _ => rfl) (fun cdv A outer s H E hr => ?_) p_require_tie
  exact (lss_one (ls_if (lb_not (lb_tru (le_call (cal_is_within Fc) hr (by decide) rfl (els_one (lv_nm rfl (.inl rfl)) (els_one lv_int (els_one (PE.lv (le_bin ops_I0 op_sub (PE.lo (PE.lv (le_callB call_lenA ops_len rfl (fr_len Fc) bt_len (los_cons (PE.lo (PE.lv (le_ix (hr.uu 1) (lo_nm rfl (.inl rfl)) (PE.lo lv_int)))) los_nil)))) (PE.lo lv_int))) els_nil)))))) lss_never lss_nil))
theorem sc_less_tie : FnScope ["web", "i"] ["web", "i"] (defScope (top 25)) := C8.fnScope_by (by decide +kernel)
theorem cal_less_tie (Fc : Fx K mg) : C8.Cal P w K mg base 1 "less_tie" (spOf K 2 s_less_tie) [] := by
  obtain ⟨fd, F⟩ : ∃ fd, FunD K "less_tie" "less_tie" (defArgs (top 25)) (defBody (top 25)) (defScope (top 25)) [] [] (He.fAd K ("less_tie", none)) fd := let ⟨_, X, G, c⟩ := Fc; c.def_ 48 (d := dfn "less_tie" 25) rfl
  have hm : mg "less_tie" = some (.ref (He.fAd K ("less_tie", none))) := let ⟨_, X, G, c⟩ := Fc; He.glo_ok X G (c.fact 48 (f := .glo "less_tie") rfl)
  have scS := sc_less_tie
  refine fn_z F hm scS rfl (by decide) (FunD.bindsN F fun _ _ _ _ _ _ us hl => match us, hl with | [_, _], _ => rfl) (fun cdv A outer s H E hr => ?_) p_less_tie
  exact (lss_one (ls_ret (le_tup (els_one (PE.lv (le_ix (hr.uu 1) (lo_nm rfl (.inl rfl)) (PE.lo lv_int))) (els_one (PE.lv (le_bin ops_add op_addA (PE.lo (PE.lv (le_slB (PE.lo (PE.lv (le_ix (hr.uu 1) (lo_nm rfl (.inl rfl)) (PE.lo lv_int)))) (lo_nm rfl (.inl rfl))))) (PE.lo (PE.lv (le_slA (PE.lo (PE.lv (le_ix (hr.uu 1) (lo_nm rfl (.inl rfl)) (PE.lo lv_int)))) (PE.lo (PE.lv (le_bin ops_add op_addA (lo_nm rfl (.inl rfl)) (PE.lo lv_int))))))))) els_nil)))))
theorem sc_without_tie : FnScope ["web", "i"] ["web", "i"] (defScope (top 32)) := C8.fnScope_by (by decide +kernel)
theorem cal_without_tie (Fc : Fx K mg) : C8.Cal P w K mg base 6 "without_tie" (spOf K 2 s_without_tie) [] := by
  obtain ⟨fd, F⟩ : ∃ fd, FunD K "without_tie" "without_tie" (defArgs (top 32)) (defBody (top 32)) (defScope (top 32)) [] [] (He.fAd K ("without_tie", none)) fd := let ⟨_, X, G, c⟩ := Fc; c.def_ 49 (d := dfn "without_tie" 32) rfl
  have hm : mg "without_tie" = some (.ref (He.fAd K ("without_tie", none))) := let ⟨_, X, G, c⟩ := Fc; He.glo_ok X G (c.fact 49 (f := .glo "without_tie") rfl)
  have scS := sc_without_tie
  refine fn_z F hm scS rfl (by decide) (FunD.bindsN F fun _ _ _ _ _ _ us hl => match us, hl with | [_, _], _ => rfl) (fun cdv A outer s H E hr => ?_) p_without_tie
  exact (lss_cons (ls_expr (le_call (cal_require_web Fc) hr (by decide) rfl (els_one (lv_nm rfl (.inl rfl)) els_nil))) (lss_cons (ls_expr (le_call (cal_require_tie Fc) hr (by decide) rfl (els_one (lv_nm rfl (.inl rfl)) (els_one (lv_nm rfl (.inl rfl)) els_nil)))) (lss_one (ls_ret (le_call (cal_less_tie Fc) hr (by decide) rfl (els_one (lv_nm rfl (.inl rfl)) (els_one (lv_nm rfl (.inl rfl)) els_nil)))))))
theorem sc__law_drawn_right : FnScope ["dice", "web", "whole", "due", "piece", "i", "a", "b", "rest", "some", "pair"] ["dice"] (defScope (top 61)) := C8.fnScope_by (by decide +kernel)
theorem cal__law_drawn_right (Fc : Fx K mg) : C8.Cal P w K mg base 9 "_law_drawn_right" (spOf1 K 1 s__law_drawn_right) [] := by
  obtain ⟨fd, F⟩ : ∃ fd, FunD K "_law_drawn_right" "_law_drawn_right" (defArgs (top 61)) (defBody (top 61)) (defScope (top 61)) [] [] (He.fAd K ("_law_drawn_right", none)) fd := let ⟨_, X, G, c⟩ := Fc; c.def_ 50 (d := dfn "_law_drawn_right" 61) rfl
  have hm : mg "_law_drawn_right" = some (.ref (He.fAd K ("_law_drawn_right", none))) := let ⟨_, X, G, c⟩ := Fc; He.glo_ok X G (c.fact 50 (f := .glo "_law_drawn_right") rfl)
  have scS := sc__law_drawn_right
  refine fn_z1 F hm scS rfl (by decide) (FunD.bindsN F fun _ _ _ _ _ _ us hl => match us, hl with | [_], _ => rfl) (fun cdv A outer s H E hr => ?_) p__law_drawn_right
  exact (lss_cons (ls_set scS.nd rfl (.inr rfl) (le_call1 (cal__law_drawn Fc) hr (by decide) rfl rfl (.inl rfl) els_nil)) (lss_cons (ls_set scS.nd rfl (.inl rfl) (le_call (cal__law_pairings Fc) hr (by decide) rfl (els_one (lv_nm rfl (.inr (.inl rfl))) els_nil))) (lss_cons (ls_if (PW.lb (lw_or (lb_cmp ops_ne (op_neD (hr.uu 64)) (nomark _) (PE.lo (PE.lv (le_callTy call_list_of ops_list rfl (fr_list Fc) bt_list (los_cons (PE.lo (PE.lv (le_call (cal_all_pairings Fc) hr (by decide) rfl (els_one (lv_nm rfl (.inr (.inl rfl))) els_nil)))) los_nil)))) (lo_nm rfl (.inl rfl))) (lw_or1 (lb_not (lb_tru (le_call (cal__law_are_told Fc) hr (by decide) rfl (els_one (lv_nm rfl (.inr (.inl rfl))) (els_one (PE.lv (le_call (cal__law_counts Fc) hr (by decide) rfl (els_one (lv_nm rfl (.inl rfl)) els_nil))) els_nil)))))))) (lss_one (ls_ret (PE.le lv_bl))) lss_nil) (lss_cons (ls_if (lb_cmp ops_ne (op_neD (hr.uu 64)) (nomark _) (PE.lo (PE.lv (le_callTy call_list_of ops_list rfl (fr_list Fc) bt_list (los_cons (PE.lo (PE.lv (le_call (cal_full_pairings Fc) hr (by decide) rfl (els_one (lv_nm rfl (.inr (.inl rfl))) els_nil)))) los_nil)))) (PE.lo (PE.lv (le_lc (own := [("some", 9)]) rfl scS.nd (li_seq (lv_nm rfl (.inl rfl))) (blkOk_by (by kernel_rfl)) (by decide) (fun _ _ _ _ _ => (lg_nm scS.nd rfl (.inl rfl))) (fun _ _ _ _ _ => (lts_one (lb_cmp ops_eq (op_eqD (hr.uu 64)) (nomark _) (PE.lo (PE.lv (le_bin ops_mul op_mulA (PE.lo lv_int) (PE.lo (PE.lv (le_callB call_lenA ops_len rfl (fr_len Fc) bt_len (los_cons (lo_nm rfl (.inl rfl)) los_nil))))))) (PE.lo (PE.lv (le_ix (hr.uu 1) (lo_nm rfl (.inr (.inl rfl))) (PE.lo lv_int))))))) (fun _ _ _ _ _ => (lv_nm rfl (.inl rfl))))))) (lss_one (ls_ret (PE.le lv_bl))) lss_nil) (lss_cons (ls_set scS.nd rfl (.inl rfl) (PE.le lv_int)) (lss_cons (ls_for .never rfl (li_seq (PE.lv (le_call (cal_pieces Fc) hr (by decide) rfl (els_one (lv_nm rfl (.inr (.inl rfl))) els_nil)))) (lg_nm scS.nd rfl (.inl rfl)) (lss_one (ls_set scS.nd rfl (.inl rfl) (le_bin ops_mul op_mulA (lo_nm rfl (.inl rfl)) (PE.lo (PE.lv (le_call (cal_count_pairings Fc) hr (by decide) rfl (els_one (PE.lv (le_call (cal_part_of Fc) hr (by decide) rfl (els_one (lv_nm rfl (.inr (.inl rfl))) (els_one (lv_nm rfl (.inl rfl)) els_nil)))) els_nil)))))))) (lss_cons (ls_if (lb_cmp ops_ne (op_neD (hr.uu 64)) (nomark _) (lo_nm rfl (.inl rfl)) (PE.lo (PE.lv (le_callB call_lenA ops_len rfl (fr_len Fc) bt_len (los_cons (lo_nm rfl (.inl rfl)) los_nil))))) (lss_one (ls_ret (PE.le lv_bl))) lss_nil) (lss_cons (ls_if (lb_cmp ops_eq (op_eqD (hr.uu 64)) (nomark _) (PE.lo (PE.lv (le_ix (hr.uu 1) (lo_nm rfl (.inr (.inl rfl))) (PE.lo lv_int)))) (PE.lo (PE.lv (le_tup els_nil)))) (lss_one (ls_ret (le_cmp ops_eq (op_eqD (hr.uu 64)) (nomark _) (lo_nm rfl (.inl rfl)) (PE.lo (PE.lv (le_lst (els_one (PE.lv (le_tup els_nil)) els_nil))))))) lss_nil) (lss_cons (ls_set scS.nd rfl (.inl rfl) (le_call1 (cal__law_roll Fc) hr (by decide) rfl rfl (.inl rfl) (els_one (PE.lv (le_callB call_lenA ops_len rfl (fr_len Fc) bt_len (los_cons (PE.lo (PE.lv (le_ix (hr.uu 1) (lo_nm rfl (.inr (.inl rfl))) (PE.lo lv_int)))) los_nil))) els_nil))) (lss_cons (ls_asg (PE.lv (le_ix (hr.uu 1) (PE.lo (PE.lv (le_ix (hr.uu 1) (lo_nm rfl (.inr (.inl rfl))) (PE.lo lv_int)))) (lo_nm rfl (.inl rfl)))) (lg_tup rfl (lgs_cons (lg_nm scS.nd rfl (.inr rfl)) (lgs_cons (lg_nm scS.nd rfl (.inr rfl)) lgs_nil)))) (lss_cons (ls_set scS.nd rfl (.inl rfl) (le_tup (els_one (PE.lv (le_ix (hr.uu 1) (lo_nm rfl (.inr (.inl rfl))) (PE.lo lv_int))) (els_one (PE.lv (le_callTy call_tuple_of ops_tuple rfl (fr_tuple Fc) bt_tuple (los_cons (PE.lo (PE.lv (le_lc (own := [("pair", 10)]) rfl scS.nd (li_seq (PE.lv (le_ix (hr.uu 1) (lo_nm rfl (.inr (.inl rfl))) (PE.lo lv_int)))) (blkOk_by (by kernel_rfl)) (by decide) (fun _ _ _ _ _ => (lg_nm scS.nd rfl (.inl rfl))) (fun _ _ _ _ _ => (lts_one (PW.lb (lw_and (lb_cmp ops_in (op_notInA (hr.uu 65)) (by with_unfolding_all rfl) (lo_nm rfl (.inr (.inl rfl))) (lo_nm rfl (.inl rfl))) (lw_and1 (lb_cmp ops_in (op_notInA (hr.uu 65)) (by with_unfolding_all rfl) (lo_nm rfl (.inr (.inl rfl))) (lo_nm rfl (.inl rfl)))))))) (fun _ _ _ _ _ => (lv_nm rfl (.inl rfl)))))) los_nil))) els_nil)))) (lss_one (ls_ret (le_cmp ops_eq (op_eqD (hr.uu 64)) (nomark _) (PE.lo (PE.lv (le_bin ops_add op_addA (PE.lo (PE.lv (le_call (cal_count_pairings Fc) hr (by decide) rfl (els_one (PE.lv (le_call (cal_without_tie Fc) hr (by decide) rfl (els_one (lv_nm rfl (.inr (.inl rfl))) (els_one (lv_nm rfl (.inl rfl)) els_nil)))) els_nil)))) (PE.lo (PE.lv (le_call (cal_count_pairings Fc) hr (by decide) rfl (els_one (lv_nm rfl (.inl rfl)) els_nil))))))) (PE.lo (PE.lv (le_callB call_lenA ops_len rfl (fr_len Fc) bt_len (los_cons (lo_nm rfl (.inl rfl)) los_nil))))))))))))))))))
theorem sc_law : FnScope ["script", "spot", "dice", "turn", "web", "due", "one", "first", "far", "last", "both", "i", "a", "j", "b"] ["script"] (defScope (top 64)) := C8.fnScope_by (by decide +kernel)
theorem cal_law (Fc : Fx K mg) : C8.Cal P w K mg base 10 "law" (spOf K 1 s_law) [] := by
  obtain ⟨fd, F⟩ : ∃ fd, FunD K "law" "law" (defArgs (top 64)) (defBody (top 64)) (defScope (top 64)) [] [] (He.fAd K ("law", none)) fd := let ⟨_, X, G, c⟩ := Fc; c.def_ 51 (d := dfn "law" 64) rfl
  have hm : mg "law" = some (.ref (He.fAd K ("law", none))) := let ⟨_, X, G, c⟩ := Fc; He.glo_ok X G (c.fact 51 (f := .glo "law") rfl)
  have scS := sc_law
  refine fn_z F hm scS rfl (by decide) (FunD.bindsN F fun _ _ _ _ _ _ us hl => match us, hl with | [_], _ => rfl) (fun cdv A outer s H E hr => ?_) p_law
  exact (lss_cons (ls_for .never rfl (li_rng1 rfl (fr_range Fc) (PE.lv (le_callB (call_maxA rfl) ops_max rfl (fr_max Fc) bt_max (los_cons (PE.lo lv_int) (los_cons (PE.lo (PE.lv (le_callB (call_minA rfl) ops_min rfl (fr_min Fc) bt_min (los_cons (PE.lo lv_int) (los_cons (PE.lo (PE.lv (le_callB call_lenA ops_len rfl (fr_len Fc) bt_len (los_cons (lo_nm rfl (.inl rfl)) los_nil)))) los_nil))))) los_nil))))) (lg_nm scS.nd rfl (.inl rfl)) (lss_cons (ls_set scS.nd rfl (.inl rfl) (le_call (cal__law_dice Fc) hr (by decide) rfl (els_one (lv_nm rfl (.inl rfl)) (els_one (lv_nm rfl (.inl rfl)) els_nil)))) (lss_cons (ls_for .never rfl (li_rng1 rfl (fr_range Fc) lv_int) (lg_nm scS.nd rfl (.inl rfl)) (lss_cons (ls_asg (PE.lv (le_call1 (cal__law_known Fc) hr (by decide) rfl rfl (.inl rfl) els_nil)) (lg_tup rfl (lgs_cons (lg_nm scS.nd rfl (.inl rfl)) (lgs_cons (lg_nm scS.nd rfl (.inl rfl)) lgs_nil)))) (lss_one (ls_if (PW.lb (lw_or (lb_not (lb_tru (le_call (cal__law_are_told Fc) hr (by decide) rfl (els_one (PE.lv (le_call1 (cal__law_named Fc) hr (by decide) rfl rfl (.inl rfl) (els_one (lv_nm rfl (.inl rfl)) els_nil))) (els_one (lv_nm rfl (.inl rfl)) els_nil))))) (lw_or1 (lb_not (lb_tru (le_call1 (cal__law_drawn_right Fc) hr (by decide) rfl rfl (.inl rfl) els_nil)))))) (lss_one (ls_ret (PE.le lv_bl))) lss_nil)))) (lss_cons (ls_if (PW.lb (lw_or (lb_not (lb_tru (le_call1 (cal__law_ladder_right Fc) hr (by decide) rfl rfl (.inl rfl) els_nil))) (lw_or1 (lb_not (lb_tru (le_call1 (cal__law_regular_right Fc) hr (by decide) rfl rfl (.inl rfl) els_nil)))))) (lss_one (ls_ret (PE.le lv_bl))) lss_nil) (lss_cons (ls_asg (PE.lv (le_tup (els_one (PE.lv (le_call1 (cal__law_known Fc) hr (by decide) rfl rfl (.inl rfl) els_nil)) (els_one (PE.lv (le_call1 (cal__law_known Fc) hr (by decide) rfl rfl (.inl rfl) els_nil)) els_nil)))) (lg_tup rfl (lgs_cons (lg_tup rfl (lgs_cons (lg_nm scS.nd rfl (.inr rfl)) (lgs_cons (lg_nm scS.nd rfl (.inl rfl)) lgs_nil))) (lgs_cons (lg_tup rfl (lgs_cons (lg_nm scS.nd rfl (.inl rfl)) (lgs_cons (lg_nm scS.nd rfl (.inl rfl)) lgs_nil))) lgs_nil)))) (lss_one (ls_if (PW.lb (lw_and (lb_cmp ops_le (op_leA (hr.uu 0)) (nomark _) (PE.lo (PE.lv (le_bin ops_add op_addA (PE.lo (PE.lv (le_ix (hr.uu 1) (lo_nm rfl (.inr (.inl rfl))) (PE.lo lv_int)))) (PE.lo (PE.lv (le_ix (hr.uu 1) (lo_nm rfl (.inl rfl)) (PE.lo lv_int))))))) (PE.lo lv_int)) (lw_and1 (lb_cmp ops_le (op_leA (hr.uu 0)) (nomark _) (PE.lo (PE.lv (le_bin ops_add op_addA (PE.lo (PE.lv (le_callB call_lenA ops_len rfl (fr_len Fc) bt_len (los_cons (PE.lo (PE.lv (le_ix (hr.uu 1) (lo_nm rfl (.inr (.inl rfl))) (PE.lo lv_int)))) los_nil)))) (PE.lo (PE.lv (le_callB call_lenA ops_len rfl (fr_len Fc) bt_len (los_cons (PE.lo (PE.lv (le_ix (hr.uu 1) (lo_nm rfl (.inl rfl)) (PE.lo lv_int)))) los_nil))))))) (PE.lo lv_int))))) (lss_cons (ls_set scS.nd rfl (.inl rfl) (le_bin ops_mul op_mulA (PE.lo (PE.lv (le_lst (els_one lv_int els_nil)))) (PE.lo (PE.lv (le_bin ops_I0 op_sub (PE.lo (PE.lv (le_bin ops_add op_addA (PE.lo (PE.lv (le_callB call_lenA ops_len rfl (fr_len Fc) bt_len (los_cons (lo_nm rfl (.inl rfl)) los_nil)))) (PE.lo (PE.lv (le_callB call_lenA ops_len rfl (fr_len Fc) bt_len (los_cons (lo_nm rfl (.inl rfl)) los_nil))))))) (PE.lo lv_int)))))) (lss_cons (ls_for .never rfl (li_enum rfl (fr_enumerate Fc) (lv_nm rfl (.inl rfl))) (lg_tup rfl (lgs_cons (lg_nm scS.nd rfl (.inl rfl)) (lgs_cons (lg_nm scS.nd rfl (.inl rfl)) lgs_nil))) (lss_one (ls_for .never rfl (li_enum rfl (fr_enumerate Fc) (lv_nm rfl (.inl rfl))) (lg_tup rfl (lgs_cons (lg_nm scS.nd rfl (.inl rfl)) (lgs_cons (lg_nm scS.nd rfl (.inl rfl)) lgs_nil))) (lss_one (ls_asg (PE.lv (le_bin ops_add op_addA (PE.lo (PE.lv (le_ix (hr.uu 1) (lo_nm rfl (.inl rfl)) (PE.lo (PE.lv (le_bin ops_add op_addA (lo_nm rfl (.inl rfl)) (lo_nm rfl (.inl rfl)))))))) (PE.lo (PE.lv (le_bin ops_mul op_mulA (lo_nm rfl (.inl rfl)) (lo_nm rfl (.inl rfl))))))) (lg_ix (hr.uu 1) rfl (.inl rfl) (PE.lv (le_bin ops_add op_addA (lo_nm rfl (.inl rfl)) (lo_nm rfl (.inl rfl)))))))))) (lss_one (ls_if (lb_not (lb_tru (le_call (cal__law_are_told Fc) hr (by decide) rfl (els_one (PE.lv (le_call (cal__law_web Fc) hr (by decide) rfl (els_one (PE.lv (le_bin ops_add op_addA (PE.lo (PE.lv (le_ix (hr.uu 1) (lo_nm rfl (.inr (.inl rfl))) (PE.lo lv_int)))) (PE.lo (PE.lv (le_ix (hr.uu 1) (lo_nm rfl (.inl rfl)) (PE.lo lv_int)))))) (els_one (PE.lv (le_bin ops_add op_addA (PE.lo (PE.lv (le_callTy call_list_of ops_list rfl (fr_list Fc) bt_list (los_cons (PE.lo (PE.lv (le_ix (hr.uu 1) (lo_nm rfl (.inr (.inl rfl))) (PE.lo lv_int)))) los_nil)))) (PE.lo (PE.lv (le_lc (own := [("a", 12), ("b", 14)]) rfl scS.nd (li_seq (PE.lv (le_ix (hr.uu 1) (lo_nm rfl (.inl rfl)) (PE.lo lv_int)))) (blkOk_by (by kernel_rfl)) (by decide) (fun _ _ _ _ _ => (lg_tup rfl (lgs_cons (lg_nm scS.nd rfl (.inl rfl)) (lgs_cons (lg_nm scS.nd rfl (.inl rfl)) lgs_nil)))) (fun _ _ _ _ _ => lts_nil) (fun _ _ _ _ _ => (PE.lv (le_tup (els_one (PE.lv (le_bin ops_add op_addA (lo_nm rfl (.inl rfl)) (PE.lo (PE.lv (le_ix (hr.uu 1) (lo_nm rfl (.inr (.inl rfl))) (PE.lo lv_int)))))) (els_one (PE.lv (le_bin ops_add op_addA (lo_nm rfl (.inl rfl)) (PE.lo (PE.lv (le_ix (hr.uu 1) (lo_nm rfl (.inr (.inl rfl))) (PE.lo lv_int)))))) els_nil)))))))))) els_nil)))) (els_one (lv_nm rfl (.inl rfl)) els_nil))))) (lss_one (ls_ret (PE.le lv_bl))) lss_nil)))) lss_nil))))))) (lss_one (ls_ret (le_and (PE.lv (le_cmp ops_eq (op_eqD (hr.uu 64)) (nomark _) (PE.lo (PE.lv (le_call (cal_full_pairings Fc) hr (by decide) rfl (els_one (PE.lv (le_tup (els_one lv_int (els_one (PE.lv (le_tup els_nil)) els_nil)))) els_nil)))) (PE.lo (PE.lv (le_tup els_nil))))) (le_and (PE.lv (le_cmp ops_eq (op_eqD (hr.uu 64)) (nomark _) (PE.lo (PE.lv (le_call (cal_count_by_ties Fc) hr (by decide) rfl (els_one (PE.lv (le_tup (els_one lv_int (els_one (PE.lv (le_tup els_nil)) els_nil)))) els_nil)))) (PE.lo (PE.lv (le_tup (els_one lv_int els_nil)))))) (le_one (le_cmp ops_eq (op_eqD (hr.uu 64)) (nomark _) (PE.lo (PE.lv (le_call (cal_all_pairings Fc) hr (by decide) rfl (els_one (PE.lv (le_tup (els_one lv_int (els_one (PE.lv (le_tup (els_one (PE.lv (le_tup (els_one lv_int (els_one lv_int els_nil)))) (els_one (PE.lv (le_tup (els_one lv_int (els_one lv_int els_nil)))) els_nil)))) els_nil)))) els_nil)))) (PE.lo (PE.lv (le_tup (els_one (PE.lv (le_tup els_nil)) (els_one (PE.lv (le_tup (els_one lv_int els_nil))) (els_one (PE.lv (le_tup (els_one lv_int els_nil))) els_nil)))))))))))))
end
end K44

set_option Elab.async false
set_option linter.all false
set_option maxRecDepth 100000
set_option maxHeartbeats 0
namespace K44
open PySem PySem.Spec PyProof.Rows L2 Z
theorem ok_law {P : Program} {w : World} {K : PySem.W.Frag} {mg : PySem.Str → Option Value} {base : Heap} {f : Addr} {fd : FuncData} (Fc : Fx K mg) (F : FunD K "law" "law" (defArgs (top 64)) (defBody (top 64)) (defScope (top 64)) [] [] f fd) : FnOk P w K mg base CX0 10 f fd ["script"] (spOf K 1 s_law) := by
  have scS := sc_law
  refine fn_zF F scS rfl (by decide) (fun cdv A outer s H E hr => ?_) p_law
  exact (lss_cons (ls_for .never rfl (li_rng1 rfl (fr_range Fc) (PE.lv (le_callB (call_maxA rfl) ops_max rfl (fr_max Fc) bt_max (los_cons (PE.lo lv_int) (los_cons (PE.lo (PE.lv (le_callB (call_minA rfl) ops_min rfl (fr_min Fc) bt_min (los_cons (PE.lo lv_int) (los_cons (PE.lo (PE.lv (le_callB call_lenA ops_len rfl (fr_len Fc) bt_len (los_cons (lo_nm rfl (.inl rfl)) los_nil)))) los_nil))))) los_nil))))) (lg_nm scS.nd rfl (.inl rfl)) (lss_cons (ls_set scS.nd rfl (.inl rfl) (le_call (cal__law_dice Fc) hr (by decide) rfl (els_one (lv_nm rfl (.inl rfl)) (els_one (lv_nm rfl (.inl rfl)) els_nil)))) (lss_cons (ls_for .never rfl (li_rng1 rfl (fr_range Fc) lv_int) (lg_nm scS.nd rfl (.inl rfl)) (lss_cons (ls_asg (PE.lv (le_call1 (cal__law_known Fc) hr (by decide) rfl rfl (.inl rfl) els_nil)) (lg_tup rfl (lgs_cons (lg_nm scS.nd rfl (.inl rfl)) (lgs_cons (lg_nm scS.nd rfl (.inl rfl)) lgs_nil)))) (lss_one (ls_if (PW.lb (lw_or (lb_not (lb_tru (le_call (cal__law_are_told Fc) hr (by decide) rfl (els_one (PE.lv (le_call1 (cal__law_named Fc) hr (by decide) rfl rfl (.inl rfl) (els_one (lv_nm rfl (.inl rfl)) els_nil))) (els_one (lv_nm rfl (.inl rfl)) els_nil))))) (lw_or1 (lb_not (lb_tru (le_call1 (cal__law_drawn_right Fc) hr (by decide) rfl rfl (.inl rfl) els_nil)))))) (lss_one (ls_ret (PE.le lv_bl))) lss_nil)))) (lss_cons (ls_if (PW.lb (lw_or (lb_not (lb_tru (le_call1 (cal__law_ladder_right Fc) hr (by decide) rfl rfl (.inl rfl) els_nil))) (lw_or1 (lb_not (lb_tru (le_call1 (cal__law_regular_right Fc) hr (by decide) rfl rfl (.inl rfl) els_nil)))))) (lss_one (ls_ret (PE.le lv_bl))) lss_nil) (lss_cons (ls_asg (PE.lv (le_tup (els_one (PE.lv (le_call1 (cal__law_known Fc) hr (by decide) rfl rfl (.inl rfl) els_nil)) (els_one (PE.lv (le_call1 (cal__law_known Fc) hr (by decide) rfl rfl (.inl rfl) els_nil)) els_nil)))) (lg_tup rfl (lgs_cons (lg_tup rfl (lgs_cons (lg_nm scS.nd rfl (.inr rfl)) (lgs_cons (lg_nm scS.nd rfl (.inl rfl)) lgs_nil))) (lgs_cons (lg_tup rfl (lgs_cons (lg_nm scS.nd rfl (.inl rfl)) (lgs_cons (lg_nm scS.nd rfl (.inl rfl)) lgs_nil))) lgs_nil)))) (lss_one (ls_if (PW.lb (lw_and (lb_cmp ops_le (op_leA (hr.uu 0)) (nomark _) (PE.lo (PE.lv (le_bin ops_add op_addA (PE.lo (PE.lv (le_ix (hr.uu 1) (lo_nm rfl (.inr (.inl rfl))) (PE.lo lv_int)))) (PE.lo (PE.lv (le_ix (hr.uu 1) (lo_nm rfl (.inl rfl)) (PE.lo lv_int))))))) (PE.lo lv_int)) (lw_and1 (lb_cmp ops_le (op_leA (hr.uu 0)) (nomark _) (PE.lo (PE.lv (le_bin ops_add op_addA (PE.lo (PE.lv (le_callB call_lenA ops_len rfl (fr_len Fc) bt_len (los_cons (PE.lo (PE.lv (le_ix (hr.uu 1) (lo_nm rfl (.inr (.inl rfl))) (PE.lo lv_int)))) los_nil)))) (PE.lo (PE.lv (le_callB call_lenA ops_len rfl (fr_len Fc) bt_len (los_cons (PE.lo (PE.lv (le_ix (hr.uu 1) (lo_nm rfl (.inl rfl)) (PE.lo lv_int)))) los_nil))))))) (PE.lo lv_int))))) (lss_cons (ls_set scS.nd rfl (.inl rfl) (le_bin ops_mul op_mulA (PE.lo (PE.lv (le_lst (els_one lv_int els_nil)))) (PE.lo (PE.lv (le_bin ops_I0 op_sub (PE.lo (PE.lv (le_bin ops_add op_addA (PE.lo (PE.lv (le_callB call_lenA ops_len rfl (fr_len Fc) bt_len (los_cons (lo_nm rfl (.inl rfl)) los_nil)))) (PE.lo (PE.lv (le_callB call_lenA ops_len rfl (fr_len Fc) bt_len (los_cons (lo_nm rfl (.inl rfl)) los_nil))))))) (PE.lo lv_int)))))) (lss_cons (ls_for .never rfl (li_enum rfl (fr_enumerate Fc) (lv_nm rfl (.inl rfl))) (lg_tup rfl (lgs_cons (lg_nm scS.nd rfl (.inl rfl)) (lgs_cons (lg_nm scS.nd rfl (.inl rfl)) lgs_nil))) (lss_one (ls_for .never rfl (li_enum rfl (fr_enumerate Fc) (lv_nm rfl (.inl rfl))) (lg_tup rfl (lgs_cons (lg_nm scS.nd rfl (.inl rfl)) (lgs_cons (lg_nm scS.nd rfl (.inl rfl)) lgs_nil))) (lss_one (ls_asg (PE.lv (le_bin ops_add op_addA (PE.lo (PE.lv (le_ix (hr.uu 1) (lo_nm rfl (.inl rfl)) (PE.lo (PE.lv (le_bin ops_add op_addA (lo_nm rfl (.inl rfl)) (lo_nm rfl (.inl rfl)))))))) (PE.lo (PE.lv (le_bin ops_mul op_mulA (lo_nm rfl (.inl rfl)) (lo_nm rfl (.inl rfl))))))) (lg_ix (hr.uu 1) rfl (.inl rfl) (PE.lv (le_bin ops_add op_addA (lo_nm rfl (.inl rfl)) (lo_nm rfl (.inl rfl)))))))))) (lss_one (ls_if (lb_not (lb_tru (le_call (cal__law_are_told Fc) hr (by decide) rfl (els_one (PE.lv (le_call (cal__law_web Fc) hr (by decide) rfl (els_one (PE.lv (le_bin ops_add op_addA (PE.lo (PE.lv (le_ix (hr.uu 1) (lo_nm rfl (.inr (.inl rfl))) (PE.lo lv_int)))) (PE.lo (PE.lv (le_ix (hr.uu 1) (lo_nm rfl (.inl rfl)) (PE.lo lv_int)))))) (els_one (PE.lv (le_bin ops_add op_addA (PE.lo (PE.lv (le_callTy call_list_of ops_list rfl (fr_list Fc) bt_list (los_cons (PE.lo (PE.lv (le_ix (hr.uu 1) (lo_nm rfl (.inr (.inl rfl))) (PE.lo lv_int)))) los_nil)))) (PE.lo (PE.lv (le_lc (own := [("a", 12), ("b", 14)]) rfl scS.nd (li_seq (PE.lv (le_ix (hr.uu 1) (lo_nm rfl (.inl rfl)) (PE.lo lv_int)))) (blkOk_by (by kernel_rfl)) (by decide) (fun _ _ _ _ _ => (lg_tup rfl (lgs_cons (lg_nm scS.nd rfl (.inl rfl)) (lgs_cons (lg_nm scS.nd rfl (.inl rfl)) lgs_nil)))) (fun _ _ _ _ _ => lts_nil) (fun _ _ _ _ _ => (PE.lv (le_tup (els_one (PE.lv (le_bin ops_add op_addA (lo_nm rfl (.inl rfl)) (PE.lo (PE.lv (le_ix (hr.uu 1) (lo_nm rfl (.inr (.inl rfl))) (PE.lo lv_int)))))) (els_one (PE.lv (le_bin ops_add op_addA (lo_nm rfl (.inl rfl)) (PE.lo (PE.lv (le_ix (hr.uu 1) (lo_nm rfl (.inr (.inl rfl))) (PE.lo lv_int)))))) els_nil)))))))))) els_nil)))) (els_one (lv_nm rfl (.inl rfl)) els_nil))))) (lss_one (ls_ret (PE.le lv_bl))) lss_nil)))) lss_nil))))))) (lss_one (ls_ret (le_and (PE.lv (le_cmp ops_eq (op_eqD (hr.uu 64)) (nomark _) (PE.lo (PE.lv (le_call (cal_full_pairings Fc) hr (by decide) rfl (els_one (PE.lv (le_tup (els_one lv_int (els_one (PE.lv (le_tup els_nil)) els_nil)))) els_nil)))) (PE.lo (PE.lv (le_tup els_nil))))) (le_and (PE.lv (le_cmp ops_eq (op_eqD (hr.uu 64)) (nomark _) (PE.lo (PE.lv (le_call (cal_count_by_ties Fc) hr (by decide) rfl (els_one (PE.lv (le_tup (els_one lv_int (els_one (PE.lv (le_tup els_nil)) els_nil)))) els_nil)))) (PE.lo (PE.lv (le_tup (els_one lv_int els_nil)))))) (le_one (le_cmp ops_eq (op_eqD (hr.uu 64)) (nomark _) (PE.lo (PE.lv (le_call (cal_all_pairings Fc) hr (by decide) rfl (els_one (PE.lv (le_tup (els_one lv_int (els_one (PE.lv (le_tup (els_one (PE.lv (le_tup (els_one lv_int (els_one lv_int els_nil)))) (els_one (PE.lv (le_tup (els_one lv_int (els_one lv_int els_nil)))) els_nil)))) els_nil)))) els_nil)))) (PE.lo (PE.lv (le_tup (els_one (PE.lv (le_tup els_nil)) (els_one (PE.lv (le_tup (els_one lv_int els_nil))) (els_one (PE.lv (le_tup (els_one lv_int els_nil))) els_nil)))))))))))))
def ln0 : List PySem.Str := ["is_whole", "is_within", "is_pair", "is_ascending", "is_row_of", "is_rising_row", "is_tie_of", "is_web_in", "is_lot_in", "ties_of", "told_web", "reached_from", "pieces_in", "part_in", "less_tie", "require_web", "require_lot", "require_tie", "require_web_and_lot", "is_web"]
def ln1 : List PySem.Str := ["part_of", "without_tie", "pieces", "pairings_in", "full_pairings_in", "lowest_place", "choices_at", "added_counts", "counts_upto", "counts_in", "most_upto", "count_pairings", "count_by_ties", "all_pairings", "full_pairings", "most_paired", "_law_dice", "_law_roll", "_law_mixed", "_law_web"]
def ln2 : List PySem.Str := ["_law_named", "_law_choose", "_law_factors", "_law_known", "_law_pairings", "_law_counts", "_law_are_told", "_law_drawn", "_law_drawn_right", "_law_ladder_right", "_law_regular_right", "WebError", "InvalidWeb", "InvalidLot", "InvalidOperation", "InvalidNumber", "PAIR_SIZE", "MOST_PLACES", "MOST_TIES"]
def ln : List PySem.Str := ln0 ++ ln1 ++ ln2
abbrev Rw : PySem.W.OpenRow := PySem.W.OpenLaw.row PySem.Challenge.rw_tietints_k44_whole_pairings_counted
abbrev hk : PySem.W.Hook := He.hookD 4 fa fns
def ob (s : PySem.W.SharedT) : He.AlD := He.obsDG 4 fa fns (HandSHeadRun.getT s)
theorem ob_eq (s : PySem.W.SharedT) : ob s = hk.obs s.abs := He.obsDG_eq (HandSHeadRun.getT_eq s)
theorem run (w : World) : HandSHeadRun.RunEq Rw (PySem.W.view Rw.prog [64]) hk ob 4000 ln w := by
  intro os
  kernel_rfl
theorem facts {P : Program} {w : World} {K : PySem.W.Frag} {h : Heap} {mg : PySem.Str → Option Value} {f : Addr} (X : K.In h) (G : h.Ns mainGlobals mg) (hfa : mg ("law" : PySem.Str) = some (.ref f)) (c : He.SaysD fa fns K) :
    ∃ fd : FuncData, (∀ (s : Shared) (v : Value), BindsTo s fd ⟨[v], []⟩ [("script", v)]) ∧ ∀ base : Heap, K.In base → base.Ns mainGlobals mg → FnOk P w K mg base CX0 10 f fd ["script"] (spOf K 1 s_law) := by
  obtain ⟨fd, F⟩ := c.def_ 51 (d := dfn "law" 64) rfl
  have e := hfa.symm.trans (He.glo_ok X G (c.fact 51 (f := .glo "law") rfl))
  cases e
  have b := FunD.bindsA (ps := ["script"]) F fun _ _ _ _ _ _ us hl => match us, hl with | [_], _ => rfl
  exact ⟨fd, fun s v => b s [v] rfl, fun base _ _ => ok_law ⟨h, X, G, c⟩ F⟩
end K44
open PySem PySem.W PySem.Calls PyProof.Rows
set_option maxRecDepth 100000 in
set_option maxHeartbeats 0 in
theorem PySem.Challenge.cw_tietints_k44_whole_pairings_counted_holds : PySem.Challenge.rw_tietints_k44_whole_pairings_counted.Holds := by
  w_on; o_law
  refine HandSHeadRun.head_any (r := OpenLaw.row PySem.Challenge.rw_tietints_k44_whole_pairings_counted) (q := view (OpenLaw.row PySem.Challenge.rw_tietints_k44_whole_pairings_counted).prog [64]) (H := K44.hk) (ob := K44.ob) (M := 4000) (loose := K44.ln) (d := HandSHeadRun.topDef (OpenLaw.row PySem.Challenge.rw_tietints_k44_whole_pairings_counted).prog 64) (kwd := []) K44.ob_eq
    (by kernel_rfl) (fun s => by kernel_rfl) K44.run (by kernel_rfl) (by kernel_rfl) (by kernel_rfl) (by rfl) (by first | assumption | decide +kernel) (by decide +kernel) ⟨rfl, rfl, rfl, rfl, rfl, by decide +kernel⟩ ?hw ?hc
  case hw => w_witness2
  case hc =>
    refine L2.walk_ofE (l := PySem.Challenge.rw_tietints_k44_whole_pairings_counted) (n := 63) (k := 10) (x := "script") (CX := L2.CX0) rfl (by decide) (by kernel_rfl) ⟨rfl, by decide, by decide⟩ ?F (fun _ _ _ _ z => z)
    intro w mg fa h Y G hmg0
    obtain ⟨K, KX, c⟩ := Y
    have hmg : mg ("law" : PySem.Str) = some (.ref fa) := by
      have e : (HandSHeadRun.topDef (OpenLaw.row PySem.Challenge.rw_tietints_k44_whole_pairings_counted).prog 64).name = ("law" : PySem.Str) := by kernel_rfl
      rw [← e]
      exact hmg0
    obtain ⟨fd, hb, hF⟩ := K44.facts (P := (PySem.Challenge.rw_tietints_k44_whole_pairings_counted).prog) (w := w) KX G hmg c
    exact ⟨K, fd, Z.spOf K 1 K44.s_law, KX, hb, fun H a nsl hl _ hS => Z.law_sp (fun ns Pq hl2 hP => K44.law_is ns Pq hl2 hP) hl hS, hF⟩

