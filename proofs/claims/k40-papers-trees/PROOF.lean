import PyProof.Rows.All
import Wide.All
import OpenK.AllK
import Wide.FinOn
import HandS.ForMost
import HandS.Exc
import HandS.ExcOwn
import HandS.TupMul
import HandS.TupAny
import HandS.IsInst
import HandS.Deep
import HandS.Wide
import HandS.Flow
import HandS.Text
import HandS.NoneIn
import HandS.RaiseMore
import HandS.ExcInit
import HandS.HotCalls
import HandS.ExcIs
import KE.KExcSuper
import KE.KSuper
import HandS.Remove
import HandS.SetFor
import HandS.Comp
import HandS.SortInts
import HandS.Lambda
import HandS.Ends
import HandS.Style
import HandS.Conv
import HandS.Iter
import HandS.Zip
import KE.GoesMore
import PySem.Challenge.RW_nowayleft_k40_papers_and_arguments_of_tr
set_option Elab.async false
set_option linter.all false
set_option maxRecDepth 100000
set_option maxHeartbeats 2000000
/-! DlA: known data in an abstract heap: frozen data (Fz), owned and lent lists (T, Ow), the slots (Rep), what a step may change (Post). -/
namespace Dl
open PySem L2

abbrev D := PyData
/-- a def of the module as a datum; an own error that a suite holds (it stands at a, its dict at dd) -/
def fnD (x : Str) : D := .dict [(.none, .str x)]
def excD (a dd : Addr) (c : Str) (x : D) : D := .dict [(.none, .list [.int a, .int dd, .str c, x])]
def excAttr (c : Str) : Str := if c = "TextError" then "at" else if c = "CommandError" then "line" else "reason"
def kD : Key → D
  | .inl i => .int i
  | .inr x => .str x
def tkD (ks : List Key) : D := .tuple (ks.map kD)

mutual
inductive Fz (K : PySem.W.Frag) (mg : Str → Option Value) (F : Hp) : V → D → Prop
  | non : Fz K mg F .non .none
  | bl (b : Bool) : Fz K mg F (.bl b) (.bool b)
  | int (i : Int) : Fz K mg F (.int i) (.int i)
  | str (x : Str) : Fz K mg F (.str x) (.str x)
  | lst {a : Addr} {vs : List V} {ds : List D} : F a = some (.lst vs) → FzAll K mg F vs ds → Fz K mg F (.ref a) (.list ds)
  | tup {a : Addr} {vs : List V} {ds : List D} : SqT K F a vs → FzAll K mg F vs ds → Fz K mg F (.ref a) (.tuple ds)
  | dk {a : Addr} {kvs : List (Key × V)} {ks : List Key} {ds : List D} : F a = some (.dK kvs) → kvs.map (·.1) = ks → FzAll K mg F (kvs.map (·.2)) ds → Fz K mg F (.ref a) (.dict (ks.map kD |>.zip ds))
  | dt {a : Addr} {kvs : List (List Key × V)} {ks : List (List Key)} {ds : List D} : F a = some (.dT kvs) → kvs.map (·.1) = ks → FzAll K mg F (kvs.map (·.2)) ds → Fz K mg F (.ref a) (.dict (ks.map tkD |>.zip ds))
  | fn {x : Str} {f : Addr} : mg x = some (.ref f) → Fz K mg F (.ref f) (fnD x)
  | exc {a dd : Addr} {c : Str} {v : V} {x : D} : F dd = some (.xd [(excAttr c, v)]) → Fz K mg F v x → Fz K mg F (.ref a) (excD a dd c x)
inductive FzAll (K : PySem.W.Frag) (mg : Str → Option Value) (F : Hp) : List V → List D → Prop
  | nil : FzAll K mg F [] []
  | cons {v : V} {vs : List V} {d : D} {ds : List D} : Fz K mg F v d → FzAll K mg F vs ds → FzAll K mg F (v :: vs) (d :: ds)
end

section
variable {K : PySem.W.Frag} {mg : Str → Option Value} {F F' H H' H1 H2 : Hp}
theorem same_rd {a : Addr} {u : HO} (e : Same H H') (h : Rd H a u) : Rd H' a u := by
  rcases h with h | ⟨o, h⟩
  · exact .inl (e a _ h)
  · exact .inr ⟨o, e a _ h⟩
theorem same_sqT {a : Addr} {xs : List V} (e : Same H H') (h : SqT K H a xs) : SqT K H' a xs := by
  rcases h with h | h
  · exact .inl (same_rd e h)
  · exact .inr h
theorem same_upd {p : Addr} {o : HO} (h : H p = none) : Same H (upd H p o) := fun a u e => by
  rw [upd_ne (ne_of_none e h)]; exact e

mutual
theorem Fz.mono (e : Same F F') : ∀ {v : V} {d : D}, Fz K mg F v d → Fz K mg F' v d
  | _, _, .non => .non
  | _, _, .bl b => .bl b
  | _, _, .int i => .int i
  | _, _, .str x => .str x
  | _, _, .lst h r => .lst (e _ _ h) (FzAll.mono e r)
  | _, _, .tup h r => .tup (same_sqT e h) (FzAll.mono e r)
  | _, _, .dk h k r => .dk (e _ _ h) k (FzAll.mono e r)
  | _, _, .dt h k r => .dt (e _ _ h) k (FzAll.mono e r)
  | _, _, .fn h => .fn h
  | _, _, .exc h r => .exc (e _ _ h) (Fz.mono e r)
theorem FzAll.mono (e : Same F F') : ∀ {vs : List V} {ds : List D}, FzAll K mg F vs ds → FzAll K mg F' vs ds
  | _, _, .nil => .nil
  | _, _, .cons h r => .cons (Fz.mono e h) (FzAll.mono e r)
end
theorem FzAll.len : ∀ {vs : List V} {ds : List D}, FzAll K mg F vs ds → vs.length = ds.length
  | _, _, .nil => rfl
  | _, _, .cons _ r => by rw [List.length_cons, List.length_cons, r.len]
theorem FzAll.append : ∀ {vs ws : List V} {ds es : List D}, FzAll K mg F vs ds → FzAll K mg F ws es → FzAll K mg F (vs ++ ws) (ds ++ es)
  | _, _, _, _, .nil, h => h
  | _, _, _, _, .cons a r, h => .cons a (r.append h)
theorem FzAll.get : ∀ {vs : List V} {ds : List D} {i : Nat} {d : D}, FzAll K mg F vs ds → ds[i]? = some d → ∃ v, vs[i]? = some v ∧ Fz K mg F v d
  | _, _, _, _, .nil, e => by simp at e
  | _, _, 0, _, .cons a r, e => by simp at e; subst e; exact ⟨_, rfl, a⟩
  | _, _, i + 1, _, .cons a r, e => by
    obtain ⟨v, h1, h2⟩ := r.get (i := i) (by simpa using e)
    exact ⟨v, by simpa using h1, h2⟩
theorem FzAll.getV : ∀ {vs : List V} {ds : List D} {i : Nat} {v : V}, FzAll K mg F vs ds → vs[i]? = some v → ∃ d, ds[i]? = some d ∧ Fz K mg F v d
  | _, _, _, _, .nil, e => by simp at e
  | _, _, 0, _, .cons a r, e => by simp at e; subst e; exact ⟨_, rfl, a⟩
  | _, _, i + 1, _, .cons a r, e => by
    obtain ⟨v, h1, h2⟩ := r.getV (i := i) (by simpa using e)
    exact ⟨v, by simpa using h1, h2⟩
theorem FzAll.set {w : V} {e : D} (h : Fz K mg F w e) : ∀ {vs : List V} {ds : List D} (i : Nat), FzAll K mg F vs ds → FzAll K mg F (vs.set i w) (ds.set i e)
  | _, _, _, .nil => .nil
  | _, _, 0, .cons _ r => .cons h r
  | _, _, i + 1, .cons a r => .cons a (r.set h i)
theorem FzAll.take : ∀ {vs : List V} {ds : List D} (n : Nat), FzAll K mg F vs ds → FzAll K mg F (vs.take n) (ds.take n)
  | _, _, 0, _ => by simpa using FzAll.nil
  | _, _, _ + 1, .nil => by simpa using FzAll.nil
  | _, _, n + 1, .cons a r => by simpa using FzAll.cons a (r.take n)
theorem FzAll.drop : ∀ {vs : List V} {ds : List D} (n : Nat), FzAll K mg F vs ds → FzAll K mg F (vs.drop n) (ds.drop n)
  | _, _, 0, h => by simpa using h
  | _, _, _ + 1, .nil => by simpa using FzAll.nil
  | _, _, n + 1, .cons a r => by simpa using r.drop n
theorem FzAll.erase : ∀ {vs : List V} {ds : List D} (n : Nat), FzAll K mg F vs ds → FzAll K mg F (vs.eraseIdx n) (ds.eraseIdx n)
  | _, _, _, .nil => by simpa using FzAll.nil
  | _, _, 0, .cons _ r => by simpa using r
  | _, _, n + 1, .cons a r => by simpa using FzAll.cons a (r.erase n)
theorem FzAll.reverse : ∀ {vs : List V} {ds : List D}, FzAll K mg F vs ds → FzAll K mg F vs.reverse ds.reverse
  | _, _, .nil => .nil
  | _, _, .cons a r => by
    rw [List.reverse_cons, List.reverse_cons]
    exact r.reverse.append (.cons a .nil)
theorem FzAll.ints : ∀ {vs : List V} {ns : List Int}, FzAll K mg F vs (ns.map PyData.int) → vs = ns.map V.int
  | vs, [], h => by cases h; rfl
  | vs, n :: ns, h => by
    cases h with
    | cons a r => cases a; rw [List.map_cons, r.ints]
theorem FzAll.of_ints : ∀ (ns : List Int), FzAll K mg F (ns.map V.int) (ns.map PyData.int)
  | [] => .nil
  | n :: ns => .cons (.int n) (FzAll.of_ints ns)
/-! to the kit's own readings -/
mutual
theorem Fz.dp (e : Same F H) : ∀ (d : D) (v : V), Fz K mg F v d → d.hasDict = false → Dp K H v d
  | .none, _, h, _ => by cases h; exact .non
  | .bool b, _, h, _ => by cases h; exact .bl b
  | .int i, _, h, _ => by cases h; exact .int i
  | .str x, _, h, _ => by cases h; exact .str x
  | .list ds, _, h, hd => by
    cases h with
    | lst a r => exact .lst (.inl (.inl (e _ _ a))) (FzAll.dp e ds _ r (by simpa [PyData.hasDict] using hd))
  | .tuple ds, _, h, hd => by
    cases h with
    | tup a r => exact .tup (same_sqT e a) (FzAll.dp e ds _ r (by simpa [PyData.hasDict] using hd))
  | .dict _, _, h, hd => by simp [PyData.hasDict] at hd
theorem FzAll.dp (e : Same F H) : ∀ (ds : List D) (vs : List V), FzAll K mg F vs ds → PyData.hasDictAll ds = false → DpAll K H vs ds
  | [], _, h, _ => by cases h; exact .nil
  | d :: ds, _, h, hd => by
    cases h with
    | cons a r =>
      simp only [PyData.hasDictAll, Bool.or_eq_false_iff] at hd
      exact .cons (Fz.dp e d _ a hd.1) (FzAll.dp e ds _ r hd.2)
end
end

/-! ### what a slot holds -/
inductive T where
  /-- known data, never changed any more -/
  | d (x : D)
  /-- a list of the call's own, it may change -/
  | own (l : List D)
  /-- a caller's list, it stands as it is -/
  | bor (l : List D)
  /-- a dict of the call's own by ints and texts; by tuples of such; a caller's -/
  | odk (kvs : List (Key × D)) | odt (kvs : List (List Key × D)) | bdk (kvs : List (Key × D)) | bdt (kvs : List (List Key × D))
abbrev Env := List (Option T)

section
variable (K : PySem.W.Frag) (mg : Str → Option Value)
def Ow (F H : Hp) (L : Addr → Prop) : V → T → (Addr → Prop) → Prop
  | v, .d x, P => Fz K mg F v x ∧ ∀ a, ¬ P a
  | v, .own l, P => ∃ a vs, v = .ref a ∧ H a = some (.lst vs) ∧ F a = none ∧ ¬ L a ∧ FzAll K mg F vs l ∧ ∀ b, P b ↔ b = a
  | v, .bor l, P => ∃ a vs, v = .ref a ∧ H a = some (.lst vs) ∧ F a = none ∧ L a ∧ FzAll K mg F vs l ∧ ∀ b, P b ↔ b = a
  | v, .odk l, P => ∃ a kvs, v = .ref a ∧ H a = some (.dK kvs) ∧ F a = none ∧ ¬ L a ∧ kvs.map (·.1) = l.map (·.1) ∧ FzAll K mg F (kvs.map (·.2)) (l.map (·.2)) ∧ ∀ b, P b ↔ b = a
  | v, .odt l, P => ∃ a kvs, v = .ref a ∧ H a = some (.dT kvs) ∧ F a = none ∧ ¬ L a ∧ kvs.map (·.1) = l.map (·.1) ∧ FzAll K mg F (kvs.map (·.2)) (l.map (·.2)) ∧ ∀ b, P b ↔ b = a
  | v, .bdk l, P => ∃ a kvs, v = .ref a ∧ H a = some (.dK kvs) ∧ F a = none ∧ L a ∧ kvs.map (·.1) = l.map (·.1) ∧ FzAll K mg F (kvs.map (·.2)) (l.map (·.2)) ∧ ∀ b, P b ↔ b = a
  | v, .bdt l, P => ∃ a kvs, v = .ref a ∧ H a = some (.dT kvs) ∧ F a = none ∧ L a ∧ kvs.map (·.1) = l.map (·.1) ∧ FzAll K mg F (kvs.map (·.2)) (l.map (·.2)) ∧ ∀ b, P b ↔ b = a

/-- the slots' values σ hold what δ tells: F the frozen part of the heap H, L what is lent by callers, P i what slot i owns -/
structure Rep (F H : Hp) (L : Addr → Prop) (σ : St) (δ : Env) (P : Nat → Addr → Prop) : Prop where
  sub : Same F H
  len : σ.length = δ.length
  at_ : ∀ i t, δ.getD i none = some t → ∃ v, σ.getD i none = some v ∧ Ow K mg F H L v t (P i)
  no : ∀ i a, P i a → ∃ t, δ.getD i none = some t
  dj : ∀ i j a, P i a → P j a → i = j
  lk : ∀ a, L a → H a ≠ none ∧ F a = none
end
/-- all objects that slots hold; those of them that may be written -/
def U (P : Nat → Addr → Prop) : Addr → Prop := fun a => ∃ i, P i a
def Wr (L : Addr → Prop) (P : Nat → Addr → Prop) : Addr → Prop := fun a => U P a ∧ ¬ L a
def NoP : Addr → Prop := fun _ => False
/-- what a step may change: the frozen part grows, what is not owned stands; what is frozen or owned now was so, or owned, or is new -/
structure Post (F H : Hp) (W : Addr → Prop) (F' H' : Hp) (W' : Addr → Prop) : Prop where
  mono : Same F F'
  keep : ∀ a o, H a = some o → ¬ W a → H' a = some o
  newF : ∀ a, F' a ≠ none → F a ≠ none ∨ W a ∨ H a = none
  newW : ∀ a, W' a → W a ∨ H a = none

section
variable {K : PySem.W.Frag} {mg : Str → Option Value} {F H F1 H1 F2 H2 : Hp} {W W1 W2 : Addr → Prop}
theorem Post.refl : Post F H W F H W := ⟨fun _ _ e => e, fun _ _ e _ => e, fun _ e => .inl e, fun _ e => .inl e⟩
theorem Post.trans (a : Post F H W F1 H1 W1) (b : Post F1 H1 W1 F2 H2 W2) : Post F H W F2 H2 W2 := by
  have hn : ∀ c, H1 c = none → W c ∨ H c = none := fun c e => by
    by_cases hw : W c
    · exact .inl hw
    · cases q : H c with
      | none => exact .inr rfl
      | some o => rw [a.keep c o q hw] at e; cases e
  have hw : ∀ c, W1 c → W c ∨ H c = none := a.newW
  refine ⟨fun c o e => b.mono c o (a.mono c o e), fun c o e n => b.keep c o (a.keep c o e n) fun q => ?_, fun c e => ?_, fun c e => ?_⟩
  · rcases hw c q with z | z
    · exact n z
    · rw [e] at z; cases z
  · rcases b.newF c e with z | z | z
    · exact a.newF c z
    · exact .inr (hw c z)
    · exact .inr (hn c z)
  · rcases b.newW c e with z | z
    · exact hw c z
    · exact hn c z
theorem Post.weak {W' : Addr → Prop} (a : Post F H W F1 H1 W1) (h : ∀ c, W' c → W1 c) : Post F H W F1 H1 W' := ⟨a.mono, a.keep, a.newF, fun c e => a.newW c (h c e)⟩
theorem Post.wide {W' : Addr → Prop} (a : Post F H W F1 H1 W1) (h : ∀ c, W c → W' c) : Post F H W' F1 H1 W1 :=
  ⟨a.mono, fun c o e n => a.keep c o e fun z => n (h c z), fun c e => (a.newF c e).imp id fun z => z.imp (h c) id, fun c e => (a.newW c e).imp (h c) id⟩
/-- the heap grows, frozen -/
theorem Post.grow (hF : Same F F1) (hH : Same H H1) (hn : ∀ a, F1 a ≠ none → F a ≠ none ∨ H a = none) : Post F H W F1 H1 W :=
  ⟨hF, fun a o e _ => hH a o e, fun a e => (hn a e).imp id .inr, fun _ e => .inl e⟩
end
theorem getD_some {α : Type} {l : List (Option α)} {i : Nat} {v : α} (h : l.getD i none = some v) : l[i]? = some (some v) := by
  rw [List.getD_eq_getElem?_getD] at h
  cases e : l[i]? with
  | none => rw [e] at h; cases h
  | some x => rw [e] at h; cases h; rfl
theorem some_getD {α : Type} {l : List (Option α)} {i : Nat} {v : α} (h : l[i]? = some (some v)) : l.getD i none = some v := by
  rw [List.getD_eq_getElem?_getD, h]; rfl
theorem getD_set_self {α : Type} {l : List (Option α)} {i : Nat} {x : Option α} (h : i < l.length) : (l.set i x).getD i none = x := by
  rw [List.getD_eq_getElem?_getD, List.getElem?_set_self h]; rfl
theorem getD_set_ne {α : Type} {l : List (Option α)} {i j : Nat} {x : Option α} (h : i ≠ j) : (l.set i x).getD j none = l.getD j none := by
  rw [List.getD_eq_getElem?_getD, List.getD_eq_getElem?_getD, List.getElem?_set_ne h]
theorem getD_lt {α : Type} {l : List (Option α)} {i : Nat} {v : α} (h : l.getD i none = some v) : i < l.length :=
  (List.getElem?_eq_some_iff.mp (getD_some h)).1

section
variable {K : PySem.W.Frag} {mg : Str → Option Value} {F F' H H' : Hp} {L L' : Addr → Prop} {v : V} {t : T} {P : Addr → Prop} {σ : St} {δ : Env} {Ps : Nat → Addr → Prop}
theorem Ow.step (h : Ow K mg F H L v t P) (e : Same F F') (k : ∀ a o, H a = some o → P a → H' a = some o) (n : ∀ a, P a → F' a = none) : Ow K mg F' H' L v t P := by
  cases t with
  | d x => exact ⟨h.1.mono e, h.2⟩
  | own l =>
    obtain ⟨a, vs, rfl, h1, h2, h3, h4, h5⟩ := h
    exact ⟨a, vs, rfl, k a _ h1 ((h5 a).mpr rfl), n a ((h5 a).mpr rfl), h3, h4.mono e, h5⟩
  | bor l =>
    obtain ⟨a, vs, rfl, h1, h2, h3, h4, h5⟩ := h
    exact ⟨a, vs, rfl, k a _ h1 ((h5 a).mpr rfl), n a ((h5 a).mpr rfl), h3, h4.mono e, h5⟩
  | odk l =>
    obtain ⟨a, vs, rfl, h1, h2, h3, h4, h5, h6⟩ := h
    exact ⟨a, vs, rfl, k a _ h1 ((h6 a).mpr rfl), n a ((h6 a).mpr rfl), h3, h4, h5.mono e, h6⟩
  | odt l =>
    obtain ⟨a, vs, rfl, h1, h2, h3, h4, h5, h6⟩ := h
    exact ⟨a, vs, rfl, k a _ h1 ((h6 a).mpr rfl), n a ((h6 a).mpr rfl), h3, h4, h5.mono e, h6⟩
  | bdk l =>
    obtain ⟨a, vs, rfl, h1, h2, h3, h4, h5, h6⟩ := h
    exact ⟨a, vs, rfl, k a _ h1 ((h6 a).mpr rfl), n a ((h6 a).mpr rfl), h3, h4, h5.mono e, h6⟩
  | bdt l =>
    obtain ⟨a, vs, rfl, h1, h2, h3, h4, h5, h6⟩ := h
    exact ⟨a, vs, rfl, k a _ h1 ((h6 a).mpr rfl), n a ((h6 a).mpr rfl), h3, h4, h5.mono e, h6⟩
/-- what is held is tracked, not frozen -/
theorem Ow.has (h : Ow K mg F H L v t P) {a : Addr} (p : P a) : H a ≠ none ∧ F a = none := by
  cases t with
  | d x => exact absurd p (h.2 a)
  | own l =>
    obtain ⟨b, vs, rfl, h1, h2, h3, h4, h5⟩ := h
    obtain rfl := (h5 a).mp p
    exact ⟨by rw [h1]; simp, h2⟩
  | bor l =>
    obtain ⟨b, vs, rfl, h1, h2, h3, h4, h5⟩ := h
    obtain rfl := (h5 a).mp p
    exact ⟨by rw [h1]; simp, h2⟩
  | odk l =>
    obtain ⟨b, vs, rfl, h1, h2, h3, h4, h5, h6⟩ := h
    obtain rfl := (h6 a).mp p
    exact ⟨by rw [h1]; simp, h2⟩
  | odt l =>
    obtain ⟨b, vs, rfl, h1, h2, h3, h4, h5, h6⟩ := h
    obtain rfl := (h6 a).mp p
    exact ⟨by rw [h1]; simp, h2⟩
  | bdk l =>
    obtain ⟨b, vs, rfl, h1, h2, h3, h4, h5, h6⟩ := h
    obtain rfl := (h6 a).mp p
    exact ⟨by rw [h1]; simp, h2⟩
  | bdt l =>
    obtain ⟨b, vs, rfl, h1, h2, h3, h4, h5, h6⟩ := h
    obtain rfl := (h6 a).mp p
    exact ⟨by rw [h1]; simp, h2⟩
theorem Rep.has (R : Rep K mg F H L σ δ Ps) {a : Addr} (p : U Ps a) : H a ≠ none ∧ F a = none := by
  obtain ⟨i, p⟩ := p
  obtain ⟨t, e⟩ := R.no i a p
  obtain ⟨v, _, o⟩ := R.at_ i t e
  exact o.has p
/-- the frozen part grows, new things come; nothing else -/
structure Grow (F H F' H' : Hp) : Prop where
  mono : Same F F'
  keep : Same H H'
  sub : Same F' H'
  new : ∀ a, F' a ≠ none → F a ≠ none ∨ H a = none
theorem Grow.refl (h : Same F H) : Grow F H F H := ⟨Same.refl _, Same.refl _, h, fun _ e => .inl e⟩
theorem Grow.upd (h : Same F H) {p : Addr} {o : HO} (n : H p = none) : Grow F H (upd F p o) (upd H p o) := by
  have nF : F p = none := by
    cases q : F p with
    | none => rfl
    | some u => rw [h p u q] at n; cases n
  refine ⟨same_upd nF, same_upd n, fun a u e => ?_, fun a e => ?_⟩
  · by_cases ha : a = p
    · subst ha; rw [upd_same] at e ⊢; exact e
    · rw [upd_ne ha] at e ⊢; exact h a u e
  · by_cases ha : a = p
    · subst ha; exact .inr n
    · rw [upd_ne ha] at e; exact .inl e
theorem Grow.post {W : Addr → Prop} (g : Grow F H F' H') : Post F H W F' H' W := Post.grow g.mono g.keep g.new
theorem Rep.grow (R : Rep K mg F H L σ δ Ps) (g : Grow F H F' H') : Rep K mg F' H' L σ δ Ps := by
  have nf : ∀ a, H a ≠ none → F a = none → F' a = none := fun a h1 h2 => by
    cases q : F' a with
    | none => rfl
    | some u =>
      rcases g.new a (by rw [q]; simp) with z | z
      · exact absurd h2 z
      · exact absurd z h1
  refine ⟨g.sub, R.len, fun i t e => ?_, R.no, R.dj, fun a l => ?_⟩
  · obtain ⟨v, h1, h2⟩ := R.at_ i t e
    exact ⟨v, h1, h2.step g.mono (fun a o q _ => g.keep a o q) fun a p => nf a (h2.has p).1 (h2.has p).2⟩
  · obtain ⟨h1, h2⟩ := R.lk a l
    refine ⟨?_, nf a h1 h2⟩
    cases q : H a with
    | none => exact absurd q h1
    | some o => rw [g.keep a o q]; simp
end
end Dl

/-! DlB: results, the judgement of expressions (DE), of argument lists (DA), of tests (DT); names, constants, operators. -/
namespace Dl
open PySem L2

/-- a case whose test the kernel leaves alone -/
noncomputable def cif {α : Type} (p : Prop) (a b : α) : α := @ite α p (Classical.propDecidable p) a b
theorem cif_pos {α : Type} {p : Prop} {a b : α} (h : p) : cif p a b = a := by unfold cif; rw [if_pos h]
theorem cif_neg {α : Type} {p : Prop} {a b : α} (h : ¬ p) : cif p a b = b := by unfold cif; rw [if_neg h]
/-- what an expression gives: a datum, or the object that a slot holds -/
inductive Rs where
  | d (x : D) | sl (i : Nat)
inductive Re where
  | ok (r : Rs) (δ : Env) | ex (c : Str) (a : D) (δ : Env) | bad
def Re.bind : Re → (Rs → Env → Re) → Re
  | .ok r δ, k => k r δ
  | .ex c a δ, _ => .ex c a δ
  | .bad, _ => .bad
inductive ReA where
  | ok (r : List Rs) (δ : Env) | ex (c : Str) (a : D) (δ : Env) | bad
def ReA.bind : ReA → (List Rs → Env → Re) → Re
  | .ok r δ, k => k r δ
  | .ex c a δ, _ => .ex c a δ
  | .bad, _ => .bad
abbrev Ex := Env → Re
abbrev ExA := Env → ReA
def kvD (kvs : List (Key × D)) : D := .dict (kvs.map fun p => (kD p.1, p.2))
def tvD (kvs : List (List Key × D)) : D := .dict (kvs.map fun p => (tkD p.1, p.2))
def T.dat : T → D
  | .d x => x
  | .own l => .list l
  | .bor l => .list l
  | .odk l => kvD l
  | .odt l => tvD l
  | .bdk l => kvD l
  | .bdt l => tvD l
/-- the datum as it stands -/
def toD (r : Rs) (δ : Env) : Option D := match r with
  | .d x => some x
  | .sl i => (δ.getD i none).map T.dat
/-- frozen for good -/
def T.frz : T → Option D
  | .d x => some x
  | .own l => some (.list l)
  | .odk l => some (kvD l)
  | .odt l => some (tvD l)
  | _ => none
def frz (r : Rs) (δ : Env) : Option (D × Env) := match r with
  | .d x => some (x, δ)
  | .sl i => (δ.getD i none).bind fun t => t.frz.map fun x => (x, δ.set i (some (.d x)))

/-! ### the combinators -/
def cst (x : D) : Ex := fun δ => .ok (.d x) δ
def var (i : Nat) : Ex := fun δ => match δ.getD i none with
  | some (.d x) => .ok (.d x) δ
  | some _ => .ok (.sl i) δ
  | none => .bad
def frzE (f : Ex) : Ex := fun δ => (f δ).bind fun r δ1 => match frz r δ1 with
  | some (x, δ2) => .ok (.d x) δ2
  | none => .bad
def evA : List Ex → ExA
  | [], δ => .ok [] δ
  | f :: fs, δ => match f δ with
    | .ok r δ1 => (match evA fs δ1 with
      | .ok rs δ2 => .ok (r :: rs) δ2
      | .ex c a δ2 => .ex c a δ2
      | .bad => .bad)
    | .ex c a δ1 => .ex c a δ1
    | .bad => .bad
def ofO (o : Option D) (δ : Env) : Re := match o with
  | some z => .ok (.d z) δ
  | none => .bad
def op1 (g : D → Option D) (fa : Ex) : Ex := fun δ => (fa δ).bind fun ra δ1 => match toD ra δ1 with
  | some x => ofO (g x) δ1
  | none => .bad
def op2 (g : D → D → Option D) (fa fb : Ex) : Ex := fun δ => (fa δ).bind fun ra δ1 => (fb δ1).bind fun rb δ2 => match toD ra δ2, toD rb δ2 with
  | some x, some y => ofO (g x y) δ2
  | _, _ => .bad
def toDs : List Rs → Env → Option (List D)
  | [], _ => some []
  | r :: rs, δ => match toD r δ, toDs rs δ with
    | some x, some xs => some (x :: xs)
    | _, _ => none
/-- a built-in upon values -/
def opA (g : List D → Option D) (fs : List Ex) : Ex := fun δ => (evA fs δ).bind fun rs δ1 => match toDs rs δ1 with
  | some xs => ofO (g xs) δ1
  | none => .bad

/-! ### views -/
section
variable (K : PySem.W.Frag) (mg : Str → Option Value)
def Vw (F H : Hp) : V → D → Prop
  | v, .list l => ∃ a vs, v = .ref a ∧ H a = some (.lst vs) ∧ FzAll K mg F vs l
  | v, .tuple l => ∃ a vs, v = .ref a ∧ SqT K F a vs ∧ FzAll K mg F vs l
  | v, .dict l => ∃ a, v = .ref a ∧ ((∃ kvs kds, l = (kds : List (Key × D)).map (fun p => (kD p.1, p.2)) ∧ H a = some (.dK kvs) ∧ kvs.map (·.1) = kds.map (·.1) ∧ FzAll K mg F (kvs.map (·.2)) (kds.map (·.2))) ∨
      (∃ kvs kds, l = (kds : List (List Key × D)).map (fun p => (tkD p.1, p.2)) ∧ H a = some (.dT kvs) ∧ kvs.map (·.1) = kds.map (·.1) ∧ FzAll K mg F (kvs.map (·.2)) (kds.map (·.2))) ∨
      Fz K mg F v (.dict l))
  | v, x => Fz K mg F v x
def RsOk (F : Hp) (σ : St) (v : V) : Rs → Prop
  | .d x => Fz K mg F v x
  | .sl i => σ.getD i none = some v
end
section
variable {K : PySem.W.Frag} {mg : Str → Option Value} {F H F1 H1 F2 H2 : Hp} {L : Addr → Prop} {σ : St} {δ δ' : Env} {P : Nat → Addr → Prop} {v : V} {x : D} {r : Rs}
theorem zip_map_eq {α β γ : Type} (g : α → γ) : ∀ {kvs : List (α × β)} {ds : List D}, kvs.length = ds.length → ((kvs.map (·.1)).map g).zip ds = ((kvs.map (·.1)).zip ds).map fun p => (g p.1, p.2)
  | [], _, _ => by simp
  | _ :: _, [], h => by simp at h
  | (k, v) :: r, d :: ds, h => by
    simp only [List.map_cons, List.zip_cons_cons, List.cons.injEq, true_and]
    exact zip_map_eq g (by simpa using h)
theorem zip_fst {α β γ : Type} : ∀ {kvs : List (α × β)} {ds : List γ}, kvs.length = ds.length → kvs.map (·.1) = ((kvs.map (·.1)).zip ds).map (·.1)
  | [], _, _ => by simp
  | _ :: _, [], h => by simp at h
  | (k, v) :: r, d :: ds, h => by
    simp only [List.map_cons, List.zip_cons_cons, List.cons.injEq, true_and]
    exact zip_fst (by simpa using h)
theorem zip_snd {α β γ : Type} : ∀ {kvs : List (α × β)} {ds : List γ}, kvs.length = ds.length → ((kvs.map (·.1)).zip ds).map (·.2) = ds
  | [], ds, h => by
    have : ds = [] := List.eq_nil_of_length_eq_zero (by simpa using h.symm)
    simp [this]
  | _ :: _, [], h => by simp at h
  | (k, v) :: r, d :: ds, h => by
    simp only [List.map_cons, List.zip_cons_cons, List.cons.injEq, true_and]
    exact zip_snd (by simpa using h)
theorem Fz.vw (e : Same F H) (h : Fz K mg F v x) : Vw K mg F H v x := by
  cases h with
  | non => exact .non
  | bl b => exact .bl b
  | int i => exact .int i
  | str x => exact .str x
  | lst a r => exact ⟨_, _, rfl, e _ _ a, r⟩
  | tup a r => exact ⟨_, _, rfl, a, r⟩
  | dk a k r =>
    rename_i kvs ks ds
    subst k
    have hl : kvs.length = ds.length := by have := r.len; simpa using this
    exact ⟨_, rfl, .inl ⟨kvs, (kvs.map (·.1)).zip ds, zip_map_eq kD hl, e _ _ a, zip_fst hl, by rw [zip_snd hl]; exact r⟩⟩
  | dt a k r =>
    rename_i kvs ks ds
    subst k
    have hl : kvs.length = ds.length := by have := r.len; simpa using this
    exact ⟨_, rfl, .inr (.inl ⟨kvs, (kvs.map (·.1)).zip ds, zip_map_eq tkD hl, e _ _ a, zip_fst hl, by rw [zip_snd hl]; exact r⟩)⟩
  | fn h => exact ⟨_, rfl, .inr (.inr (.fn h))⟩
  | exc h r => exact ⟨_, rfl, .inr (.inr (.exc h r))⟩
theorem Ow.vw {t : T} {Q : Addr → Prop} (e : Same F H) (h : Ow K mg F H L v t Q) : Vw K mg F H v t.dat := by
  cases t with
  | d x => exact h.1.vw e
  | own l =>
    obtain ⟨a, vs, rfl, h1, h2, h3, h4, h5⟩ := h
    exact ⟨a, vs, rfl, h1, h4⟩
  | bor l =>
    obtain ⟨a, vs, rfl, h1, h2, h3, h4, h5⟩ := h
    exact ⟨a, vs, rfl, h1, h4⟩
  | odk l =>
    obtain ⟨a, vs, rfl, h1, h2, h3, h4, h5, h6⟩ := h
    exact ⟨a, rfl, .inl ⟨vs, l, rfl, h1, h4, h5⟩⟩
  | odt l =>
    obtain ⟨a, vs, rfl, h1, h2, h3, h4, h5, h6⟩ := h
    exact ⟨a, rfl, .inr (.inl ⟨vs, l, rfl, h1, h4, h5⟩)⟩
  | bdk l =>
    obtain ⟨a, vs, rfl, h1, h2, h3, h4, h5, h6⟩ := h
    exact ⟨a, rfl, .inl ⟨vs, l, rfl, h1, h4, h5⟩⟩
  | bdt l =>
    obtain ⟨a, vs, rfl, h1, h2, h3, h4, h5, h6⟩ := h
    exact ⟨a, rfl, .inr (.inl ⟨vs, l, rfl, h1, h4, h5⟩)⟩
theorem Rep.view (R : Rep K mg F H L σ δ P) (h : RsOk K mg F σ v r) (e : toD r δ = some x) : Vw K mg F H v x := by
  cases r with
  | d y => cases e; exact Fz.vw R.sub h
  | sl i =>
    simp only [toD, Option.map_eq_some_iff] at e
    obtain ⟨t, e1, rfl⟩ := e
    obtain ⟨w, h1, h2⟩ := R.at_ i t e1
    have h' : σ.getD i none = some v := h
    rw [h1] at h'
    cases h'
    exact h2.vw R.sub
theorem RsOk.mono (e : Same F F1) (h : RsOk K mg F σ v r) : RsOk K mg F1 σ v r := by
  cases r with
  | d y => exact Fz.mono e h
  | sl i => exact h
theorem Vw.dp (e : Same F H) (h : Vw K mg F H v x) (hd : x.hasDict = false) : Dp K H v x := by
  cases x with
  | list l =>
    obtain ⟨a, vs, rfl, h1, h2⟩ := h
    exact .lst (.inl (.inl h1)) (FzAll.dp e l _ h2 (by simpa [PyData.hasDict] using hd))
  | tuple l =>
    obtain ⟨a, vs, rfl, h1, h2⟩ := h
    exact .tup (same_sqT e h1) (FzAll.dp e l _ h2 (by simpa [PyData.hasDict] using hd))
  | dict l => simp [PyData.hasDict] at hd
  | none => exact Fz.dp e _ _ h rfl
  | bool b => exact Fz.dp e _ _ h rfl
  | int b => exact Fz.dp e _ _ h rfl
  | str b => exact Fz.dp e _ _ h rfl
end

/-! ### freezing -/
section
variable {K : PySem.W.Frag} {mg : Str → Option Value} {F H F1 H1 F2 H2 : Hp} {L : Addr → Prop} {σ : St} {δ δ' : Env} {P : Nat → Addr → Prop} {v : V} {x : D} {r : Rs}
/-- an owned thing becomes frozen -/
theorem Ow.freeze {t : T} {Q : Addr → Prop} (e : Same F H) (h : Ow K mg F H L v t Q) (hx : t.frz = some x) : ∃ F', Same F F' ∧ Same F' H ∧ (∀ a, F' a ≠ none → F a ≠ none ∨ Q a) ∧ (∀ a, ¬ Q a → F' a = F a) ∧ Fz K mg F' v x ∧ ∀ a, Q a → ¬ L a := by
  have go : ∀ {a : Addr} {o : HO}, H a = some o → F a = none → (∀ b, Q b ↔ b = a) → (Same F (upd F a o) ∧ Same (upd F a o) H ∧ (∀ b, upd F a o b ≠ none → F b ≠ none ∨ Q b) ∧ (∀ b, ¬ Q b → upd F a o b = F b)) := fun {a o} h1 h2 h3 => by
    refine ⟨same_upd h2, fun b u q => ?_, fun b q => ?_, fun b q => ?_⟩
    · by_cases hb : b = a
      · subst hb; rw [upd_same] at q; cases q; exact h1
      · rw [upd_ne hb] at q; exact e b u q
    · by_cases hb : b = a
      · exact .inr ((h3 b).mpr hb)
      · rw [upd_ne hb] at q; exact .inl q
    · exact upd_ne fun z => q ((h3 b).mpr z)
  cases t with
  | d y => cases hx; exact ⟨F, Same.refl _, e, fun a q => .inl q, fun _ _ => rfl, h.1, fun a q => absurd q (h.2 a)⟩
  | own l =>
    cases hx
    obtain ⟨a, vs, rfl, h1, h2, h3, h4, h5⟩ := h
    obtain ⟨g1, g2, g3, g4⟩ := go h1 h2 h5
    exact ⟨_, g1, g2, g3, g4, .lst upd_same (h4.mono g1), fun b q => by rw [(h5 b).mp q]; exact h3⟩
  | odk l =>
    cases hx
    obtain ⟨a, kvs, rfl, h1, h2, h3, h4, h5, h6⟩ := h
    obtain ⟨g1, g2, g3, g4⟩ := go h1 h2 h6
    have hz := Fz.dk (K := K) (mg := mg) (F := upd F a (.dK kvs)) upd_same rfl (h5.mono g1)
    have e1 : ((kvs.map (·.1)).map kD).zip (l.map (·.2)) = l.map fun p => (kD p.1, p.2) := by
      rw [h4]
      clear hz h5 h1 g1 g2 g3 g4 h4 go
      induction l with
      | nil => rfl
      | cons p r ih => simp only [List.map_cons, List.zip_cons_cons, ih]
    rw [e1] at hz
    exact ⟨_, g1, g2, g3, g4, hz, fun b q => by rw [(h6 b).mp q]; exact h3⟩
  | odt l =>
    cases hx
    obtain ⟨a, kvs, rfl, h1, h2, h3, h4, h5, h6⟩ := h
    obtain ⟨g1, g2, g3, g4⟩ := go h1 h2 h6
    have hz := Fz.dt (K := K) (mg := mg) (F := upd F a (.dT kvs)) upd_same rfl (h5.mono g1)
    have e1 : ((kvs.map (·.1)).map tkD).zip (l.map (·.2)) = l.map fun p => (tkD p.1, p.2) := by
      rw [h4]
      clear hz h5 h1 g1 g2 g3 g4 h4 go
      induction l with
      | nil => rfl
      | cons p r ih => simp only [List.map_cons, List.zip_cons_cons, ih]
    rw [e1] at hz
    exact ⟨_, g1, g2, g3, g4, hz, fun b q => by rw [(h6 b).mp q]; exact h3⟩
  | bor l => cases hx
  | bdk l => cases hx
  | bdt l => cases hx
def drop (P : Nat → Addr → Prop) (i : Nat) : Nat → Addr → Prop := fun j a => j ≠ i ∧ P j a
theorem Rep.freeze (R : Rep K mg F H L σ δ P) (h : RsOk K mg F σ v r) (e : frz r δ = some (x, δ')) : ∃ F' P', Post F H (Wr L P) F' H (Wr L P') ∧ Rep K mg F' H L σ δ' P' ∧ Fz K mg F' v x := by
  cases r with
  | d y => cases e; exact ⟨F, P, Post.refl, R, h⟩
  | sl i =>
    simp only [frz, Option.bind_eq_some_iff, Option.map_eq_some_iff, Prod.mk.injEq] at e
    obtain ⟨t, e1, y, e2, rfl, rfl⟩ := e
    obtain ⟨w, h1, h2⟩ := R.at_ i t e1
    have h' : σ.getD i none = some v := h
    rw [h1] at h'
    cases h'
    obtain ⟨F', g1, g2, g3, g4, hz, g5⟩ := h2.freeze R.sub e2
    have hi : i < δ.length := getD_lt e1
    refine ⟨F', drop P i, ⟨g1, fun a o q _ => q, fun a q => (g3 a q).imp id fun z => .inl ⟨⟨i, z⟩, g5 a z⟩, fun a ⟨⟨j, _, q⟩, n⟩ => .inl ⟨⟨j, q⟩, n⟩⟩, ⟨g2, by rw [List.length_set]; exact R.len, fun j u q => ?_, fun j a ⟨hj, q⟩ => ?_, fun j k a ⟨_, q1⟩ ⟨_, q2⟩ => R.dj j k a q1 q2, fun a l => ?_⟩, hz⟩
    · by_cases hj : i = j
      · subst hj
        rw [getD_set_self hi] at q
        cases q
        exact ⟨_, h1, hz, fun a ⟨z, _⟩ => z rfl⟩
      · rw [getD_set_ne hj] at q
        obtain ⟨w', q1, q2⟩ := R.at_ j u q
        refine ⟨w', q1, ?_⟩
        have ed : drop P i j = P j := by
          funext a
          exact propext ⟨fun z => z.2, fun z => ⟨fun y => hj y.symm, z⟩⟩
        rw [ed]
        refine q2.step g1 (fun a o z _ => z) fun a p => ?_
        have na : ¬ P i a := fun z => hj (R.dj i j a z p)
        rw [g4 a na]
        exact (q2.has p).2
    · obtain ⟨u, q'⟩ := R.no j a q
      exact ⟨u, by rw [getD_set_ne (Ne.symm hj)]; exact q'⟩
    · obtain ⟨l1, l2⟩ := R.lk a l
      refine ⟨l1, ?_⟩
      have na : ¬ P i a := fun z => g5 a z l
      rw [g4 a na]
      exact l2
end

/-! ### exceptions -/
/-- cls, d are those of the program's own error c made with a -/
def ExcIs (K : PySem.W.Frag) (mg : Str → Option Value) (F : Hp) (c : Str) (a : D) (cls : Value) (d : Option Addr) : Prop :=
  ∃ (C dd : Addr) (v : V), cls = .ref C ∧ mg c = some (.ref C) ∧ d = some dd ∧ F dd = some (.xd [(excAttr c, v)]) ∧ Fz K mg F v a

/-! ### meaning -/
section
variable (K : PySem.W.Frag) (mg : Str → Option Value) (W : WX)
structure MnE (t : TE) (f : Ex) : Prop where
  ok : ∀ σ H F L δ P r δ' (Q : VK), Rep K mg F H L σ δ P → f δ = .ok r δ' →
    (∀ v H' F' P', Post F H (Wr L P) F' H' (Wr L P') → Rep K mg F' H' L σ δ' P' → RsOk K mg F' σ v r → Q v H') → t σ H Q
  ex : ∀ σ H F L δ P c a δ' (Q : VK), Rep K mg F H L σ δ P → f δ = .ex c a δ' →
    (∀ cls d H' F' P', Post F H (Wr L P) F' H' (Wr L P') → Rep K mg F' H' L σ δ' P' → ExcIs K mg F' c a cls d → W cls d σ H') → t σ H Q
/-- argument lists -/
def RsOks (F : Hp) (σ : St) : List V → List Rs → Prop
  | [], [] => True
  | v :: vs, r :: rs => RsOk K mg F σ v r ∧ RsOks F σ vs rs
  | _, _ => False
structure MnA (t : TA) (f : ExA) : Prop where
  ok : ∀ σ H F L δ P r δ' (Q : List V → Hp → Prop), Rep K mg F H L σ δ P → f δ = .ok r δ' →
    (∀ v H' F' P', Post F H (Wr L P) F' H' (Wr L P') → Rep K mg F' H' L σ δ' P' → RsOks K mg F' σ v r → Q v H') → t σ H Q
  ex : ∀ σ H F L δ P c a δ' (Q : List V → Hp → Prop), Rep K mg F H L σ δ P → f δ = .ex c a δ' →
    (∀ cls d H' F' P', Post F H (Wr L P) F' H' (Wr L P') → Rep K mg F' H' L σ δ' P' → ExcIs K mg F' c a cls d → W cls d σ H') → t σ H Q
/-- tests -/
structure MnT (t : TT) (f : Ex) : Prop where
  ok : ∀ σ H F L δ P b δ' (Q : Bool → Hp → Prop), Rep K mg F H L σ δ P → f δ = .ok (.d (.bool b)) δ' →
    (∀ H' F' P', Post F H (Wr L P) F' H' (Wr L P') → Rep K mg F' H' L σ δ' P' → Q b H') → t σ H Q
  ex : ∀ σ H F L δ P c a δ' (Q : Bool → Hp → Prop), Rep K mg F H L σ δ P → f δ = .ex c a δ' →
    (∀ cls d H' F' P', Post F H (Wr L P) F' H' (Wr L P') → Rep K mg F' H' L σ δ' P' → ExcIs K mg F' c a cls d → W cls d σ H') → t σ H Q
end
/-- the expression e means f -/
structure DE (X : Cx) (W : WX) (e : Expr) (t : TE) (f : Ex) : Prop where
  pe : PE X e t
  mn : MnE X.K X.mg W t f
structure DA (X : Cx) (W : WX) (es : List Expr) (t : TA) (f : ExA) : Prop where
  pe : PA X es t
  mn : MnA X.K X.mg W t f
structure DT (X : Cx) (W : WX) (e : Expr) (t : TT) (f : Ex) : Prop where
  pe : PT X e t
  mn : MnT X.K X.mg W t f

section
variable {K : PySem.W.Frag} {mg : Str → Option Value} {W : WX}
theorem RsOks.mono {F F1 : Hp} {σ : St} (e : Same F F1) : ∀ {vs : List V} {rs : List Rs}, RsOks K mg F σ vs rs → RsOks K mg F1 σ vs rs
  | [], [], _ => True.intro
  | _ :: _, _ :: _, h => ⟨h.1.mono e, RsOks.mono e h.2⟩
  | [], _ :: _, h => False.elim h
  | _ :: _, [], h => False.elim h
inductive VwAll (K : PySem.W.Frag) (mg : Str → Option Value) (F H : Hp) : List V → List D → Prop
  | nil : VwAll K mg F H [] []
  | cons {v : V} {vs : List V} {d : D} {ds : List D} : Vw K mg F H v d → VwAll K mg F H vs ds → VwAll K mg F H (v :: vs) (d :: ds)
theorem Rep.views {F H : Hp} {L : Addr → Prop} {σ : St} {δ : Env} {P : Nat → Addr → Prop} (R : Rep K mg F H L σ δ P) : ∀ {vs : List V} {rs : List Rs} {xs : List D}, RsOks K mg F σ vs rs → toDs rs δ = some xs → VwAll K mg F H vs xs
  | [], [], xs, _, e => by cases e; exact .nil
  | v :: vs, r :: rs, xs, h, e => by
    simp only [toDs] at e
    split at e
    · rename_i x ys e1 e2
      cases e
      exact .cons (R.view h.1 e1) (R.views h.2 e2)
    · cases e
  | [], _ :: _, _, h, _ => False.elim h
  | _ :: _, [], _, h, _ => False.elim h
theorem mn_frz {t : TE} {f : Ex} (h : MnE K mg W t f) : MnE K mg W t (frzE f) where
  ok := fun σ H F L δ P r δ' Q R e k => by
    simp only [frzE] at e
    cases q : f δ with
    | ok r1 δ1 =>
      rw [q] at e
      simp only [Re.bind] at e
      cases q2 : frz r1 δ1 with
      | none => rw [q2] at e; cases e
      | some p =>
        obtain ⟨x, δ2⟩ := p
        rw [q2] at e
        cases e
        refine h.ok σ H F L δ P r1 δ1 Q R q fun v H' F' P' po R' rs => ?_
        obtain ⟨F2, P2, po2, R2, hz⟩ := R'.freeze rs q2
        exact k v H' F2 P2 (po.trans po2) R2 hz
    | ex c a δ1 => rw [q] at e; cases e
    | bad => rw [q] at e; cases e
  ex := fun σ H F L δ P c a δ' Q R e k => by
    simp only [frzE] at e
    cases q : f δ with
    | ok r1 δ1 =>
      rw [q] at e
      simp only [Re.bind] at e
      split at e <;> cases e
    | ex c1 a1 δ1 =>
      rw [q] at e
      cases e
      exact h.ex σ H F L δ P _ _ _ Q R q k
    | bad => rw [q] at e; cases e
/-- an expression, then a step -/
theorem MnE.then_ {ta : TE} {fa : Ex} (ha : MnE K mg W ta fa) {g : Rs → Env → Re} {T : St → V → Hp → VK → Prop}
    (ok : ∀ σ H F L δ P ra v r δ' (Q : VK), Rep K mg F H L σ δ P → RsOk K mg F σ v ra → g ra δ = .ok r δ' →
      (∀ v H' F' P', Post F H (Wr L P) F' H' (Wr L P') → Rep K mg F' H' L σ δ' P' → RsOk K mg F' σ v r → Q v H') → T σ v H Q)
    (ex : ∀ σ H F L δ P ra v c a δ' (Q : VK), Rep K mg F H L σ δ P → RsOk K mg F σ v ra → g ra δ = .ex c a δ' →
      (∀ cls d H' F' P', Post F H (Wr L P) F' H' (Wr L P') → Rep K mg F' H' L σ δ' P' → ExcIs K mg F' c a cls d → W cls d σ H') → T σ v H Q) :
    MnE K mg W (fun σ H Q => ta σ H fun x H1 => T σ x H1 Q) (fun δ => (fa δ).bind g) where
  ok := fun σ H F L δ P r δ' Q R e k => by
    cases q : fa δ with
    | ok r1 δ1 =>
      rw [q] at e
      exact ha.ok σ H F L δ P r1 δ1 _ R q fun v H' F' P' po R' rs => ok σ H' F' L δ1 P' r1 v r δ' Q R' rs e fun w H2 F2 P2 po2 R2 rs2 => k w H2 F2 P2 (po.trans po2) R2 rs2
    | ex c a δ1 => rw [q] at e; cases e
    | bad => rw [q] at e; cases e
  ex := fun σ H F L δ P c a δ' Q R e k => by
    cases q : fa δ with
    | ok r1 δ1 =>
      rw [q] at e
      exact ha.ok σ H F L δ P r1 δ1 _ R q fun v H' F' P' po R' rs => ex σ H' F' L δ1 P' r1 v c a δ' Q R' rs e fun cls d H2 F2 P2 po2 R2 rs2 => k cls d H2 F2 P2 (po.trans po2) R2 rs2
    | ex c1 a1 δ1 =>
      rw [q] at e
      cases e
      exact ha.ex σ H F L δ P _ _ _ _ R q k
    | bad => rw [q] at e; cases e
end

/-! ### operators upon values -/
def Op1 (K : PySem.W.Frag) (mg : Str → Option Value) (r : V → Hp → VK → Prop) (g : D → Option D) : Prop :=
  ∀ F H v x z (Q : VK), Same F H → Vw K mg F H v x → g x = some z → (∀ v' H' F', Grow F H F' H' → Fz K mg F' v' z → Q v' H') → r v H Q
def Op2 (K : PySem.W.Frag) (mg : Str → Option Value) (r : R2) (g : D → D → Option D) : Prop :=
  ∀ F H v w x y z (Q : VK), Same F H → Vw K mg F H v x → Vw K mg F H w y → g x y = some z → (∀ v' H' F', Grow F H F' H' → Fz K mg F' v' z → Q v' H') → r v w H Q
def OpA (K : PySem.W.Frag) (mg : Str → Option Value) (r : List V → Hp → VK → Prop) (g : List D → Option D) : Prop :=
  ∀ F H vs xs z (Q : VK), Same F H → VwAll K mg F H vs xs → g xs = some z → (∀ v' H' F', Grow F H F' H' → Fz K mg F' v' z → Q v' H') → r vs H Q
section
variable {K : PySem.W.Frag} {mg : Str → Option Value} {W : WX} {ta tb : TE} {fa fb : Ex}
theorem ofO_ok {o : Option D} {δ δ' : Env} {r : Rs} (h : ofO o δ = .ok r δ') : ∃ z, o = some z ∧ r = .d z ∧ δ' = δ := by
  cases o with
  | none => cases h
  | some z => cases h; exact ⟨z, rfl, rfl, rfl⟩
theorem ofO_ex {o : Option D} {δ δ' : Env} {c : Str} {a : D} (h : ofO o δ = .ex c a δ') : False := by
  cases o <;> cases h
theorem mn_op1 {r : V → Hp → VK → Prop} {g : D → Option D} (ho : Op1 K mg r g) (ha : MnE K mg W ta fa) : MnE K mg W (tUn r ta) (op1 g fa) := by
  refine ha.then_ (g := fun ra δ1 => match toD ra δ1 with | some x => ofO (g x) δ1 | none => .bad) (T := fun _ v H Q => r v H Q) (fun σ H F L δ P ra v r' δ' Q R rs e k => ?_) (fun σ H F L δ P ra v c a δ' Q R rs e k => ?_)
  · cases q : toD ra δ with
    | none => rw [q] at e; cases e
    | some x =>
      rw [q] at e
      obtain ⟨z, e1, rfl, rfl⟩ := ofO_ok e
      exact ho F H v x z Q R.sub (R.view rs q) e1 fun v' H' F' gr hz => k v' H' F' P gr.post (R.grow gr) hz
  · cases q : toD ra δ with
    | none => rw [q] at e; cases e
    | some x => rw [q] at e; exact (ofO_ex e).elim
theorem mn_op2 {r : R2} {g : D → D → Option D} (ho : Op2 K mg r g) (ha : MnE K mg W ta fa) (hb : MnE K mg W tb fb) : MnE K mg W (tOp r ta tb) (op2 g fa fb) where
  ok := fun σ H F L δ P rr δ' Q R e k => by
    simp only [op2] at e
    cases q : fa δ with
    | ok r1 δ1 =>
      rw [q] at e
      simp only [Re.bind] at e
      cases q2 : fb δ1 with
      | ok r2 δ2 =>
        rw [q2] at e
        simp only at e
        cases d1 : toD r1 δ2 with
        | none => rw [d1] at e; cases e
        | some x =>
          cases d2 : toD r2 δ2 with
          | none => rw [d1, d2] at e; cases e
          | some y =>
            rw [d1, d2] at e
            obtain ⟨z, e1, rfl, rfl⟩ := ofO_ok e
            refine ha.ok σ H F L δ P r1 δ1 _ R q fun v H1 F1 P1 po1 R1 rs1 => ?_
            refine hb.ok σ H1 F1 L δ1 P1 r2 δ' _ R1 q2 fun w H2 F2 P2 po2 R2 rs2 => ?_
            exact ho F2 H2 v w x y z Q R2.sub (R2.view (rs1.mono po2.mono) d1) (R2.view rs2 d2) e1 fun v' H' F' gr hz => k v' H' F' P2 ((po1.trans po2).trans gr.post) (R2.grow gr) hz
      | ex c a δ2 => rw [q2] at e; cases e
      | bad => rw [q2] at e; cases e
    | ex c a δ1 => rw [q] at e; cases e
    | bad => rw [q] at e; cases e
  ex := fun σ H F L δ P c a δ' Q R e k => by
    simp only [op2] at e
    cases q : fa δ with
    | ok r1 δ1 =>
      rw [q] at e
      simp only [Re.bind] at e
      cases q2 : fb δ1 with
      | ok r2 δ2 =>
        rw [q2] at e
        simp only at e
        split at e
        · exact (ofO_ex e).elim
        · cases e
      | ex c1 a1 δ2 =>
        rw [q2] at e
        cases e
        refine ha.ok σ H F L δ P r1 δ1 _ R q fun v H1 F1 P1 po1 R1 rs1 => ?_
        exact hb.ex σ H1 F1 L δ1 P1 _ _ _ _ R1 q2 fun cls d H2 F2 P2 po2 R2 x => k cls d H2 F2 P2 (po1.trans po2) R2 x
      | bad => rw [q2] at e; cases e
    | ex c1 a1 δ1 =>
      rw [q] at e
      cases e
      exact ha.ex σ H F L δ P _ _ _ _ R q k
    | bad => rw [q] at e; cases e
theorem mn_nil : MnA K mg W tNil (evA []) where
  ok := fun σ H F L δ P r δ' Q R e k => by cases e; exact k [] H F P Post.refl R True.intro
  ex := fun σ H F L δ P c a δ' Q R e k => by cases e
theorem mn_cons {tr : TA} {fs : List Ex} (ha : MnE K mg W ta fa) (hr : MnA K mg W tr (evA fs)) : MnA K mg W (tCons ta tr) (evA (fa :: fs)) where
  ok := fun σ H F L δ P rr δ' Q R e k => by
    simp only [evA] at e
    cases q : fa δ with
    | ok r1 δ1 =>
      rw [q] at e
      simp only at e
      cases q2 : evA fs δ1 with
      | ok r2 δ2 =>
        rw [q2] at e
        cases e
        refine ha.ok σ H F L δ P r1 δ1 _ R q fun v H1 F1 P1 po1 R1 rs1 => ?_
        refine hr.ok σ H1 F1 L δ1 P1 r2 _ _ R1 q2 fun w H2 F2 P2 po2 R2 rs2 => ?_
        exact k (v :: w) H2 F2 P2 (po1.trans po2) R2 ⟨rs1.mono po2.mono, rs2⟩
      | ex c a δ2 => rw [q2] at e; cases e
      | bad => rw [q2] at e; cases e
    | ex c a δ1 => rw [q] at e; cases e
    | bad => rw [q] at e; cases e
  ex := fun σ H F L δ P c a δ' Q R e k => by
    simp only [evA] at e
    cases q : fa δ with
    | ok r1 δ1 =>
      rw [q] at e
      simp only at e
      cases q2 : evA fs δ1 with
      | ok r2 δ2 => rw [q2] at e; cases e
      | ex c1 a1 δ2 =>
        rw [q2] at e
        cases e
        refine ha.ok σ H F L δ P r1 δ1 _ R q fun v H1 F1 P1 po1 R1 rs1 => ?_
        exact hr.ex σ H1 F1 L δ1 P1 _ _ _ _ R1 q2 fun cls d H2 F2 P2 po2 R2 x => k cls d H2 F2 P2 (po1.trans po2) R2 x
      | bad => rw [q2] at e; cases e
    | ex c1 a1 δ1 =>
      rw [q] at e
      cases e
      exact ha.ex σ H F L δ P _ _ _ _ R q k
    | bad => rw [q] at e; cases e
/-- an argument list, then a step -/
theorem MnA.then_ {ta : TA} {fa : ExA} (ha : MnA K mg W ta fa) {g : List Rs → Env → Re} {T : St → List V → Hp → VK → Prop}
    (ok : ∀ σ H F L δ P ra v r δ' (Q : VK), Rep K mg F H L σ δ P → RsOks K mg F σ v ra → g ra δ = .ok r δ' →
      (∀ v H' F' P', Post F H (Wr L P) F' H' (Wr L P') → Rep K mg F' H' L σ δ' P' → RsOk K mg F' σ v r → Q v H') → T σ v H Q)
    (ex : ∀ σ H F L δ P ra v c a δ' (Q : VK), Rep K mg F H L σ δ P → RsOks K mg F σ v ra → g ra δ = .ex c a δ' →
      (∀ cls d H' F' P', Post F H (Wr L P) F' H' (Wr L P') → Rep K mg F' H' L σ δ' P' → ExcIs K mg F' c a cls d → W cls d σ H') → T σ v H Q) :
    MnE K mg W (fun σ H Q => ta σ H fun x H1 => T σ x H1 Q) (fun δ => (fa δ).bind g) where
  ok := fun σ H F L δ P r δ' Q R e k => by
    cases q : fa δ with
    | ok r1 δ1 =>
      rw [q] at e
      exact ha.ok σ H F L δ P r1 δ1 _ R q fun v H' F' P' po R' rs => ok σ H' F' L δ1 P' r1 v r δ' Q R' rs e fun w H2 F2 P2 po2 R2 rs2 => k w H2 F2 P2 (po.trans po2) R2 rs2
    | ex c a δ1 => rw [q] at e; cases e
    | bad => rw [q] at e; cases e
  ex := fun σ H F L δ P c a δ' Q R e k => by
    cases q : fa δ with
    | ok r1 δ1 =>
      rw [q] at e
      exact ha.ok σ H F L δ P r1 δ1 _ R q fun v H' F' P' po R' rs => ex σ H' F' L δ1 P' r1 v c a δ' Q R' rs e fun cls d H2 F2 P2 po2 R2 rs2 => k cls d H2 F2 P2 (po.trans po2) R2 rs2
    | ex c1 a1 δ1 =>
      rw [q] at e
      cases e
      exact ha.ex σ H F L δ P _ _ _ _ R q k
    | bad => rw [q] at e; cases e
theorem mn_opA {r : List V → Hp → VK → Prop} {g : List D → Option D} {t : TA} {fs : List Ex} (ho : OpA K mg r g) (ha : MnA K mg W t (evA fs)) : MnE K mg W (tCB r t) (opA g fs) := by
  refine ha.then_ (g := fun ra δ1 => match toDs ra δ1 with | some x => ofO (g x) δ1 | none => .bad) (T := fun _ v H Q => r v H Q) (fun σ H F L δ P ra v r' δ' Q R rs e k => ?_) (fun σ H F L δ P ra v c a δ' Q R rs e k => ?_)
  · cases q : toDs ra δ with
    | none => rw [q] at e; cases e
    | some x =>
      rw [q] at e
      obtain ⟨z, e1, rfl, rfl⟩ := ofO_ok e
      exact ho F H v x z Q R.sub (R.views rs q) e1 fun v' H' F' gr hz => k v' H' F' P gr.post (R.grow gr) hz
  · cases q : toDs ra δ with
    | none => rw [q] at e; cases e
    | some x => rw [q] at e; exact (ofO_ex e).elim
theorem mn_cst {v : V} {x : D} (h : ∀ F, Fz K mg F v x) : MnE K mg W (tC v) (cst x) where
  ok := fun σ H F L δ P r δ' Q R e k => by cases e; exact k v H F P Post.refl R (h F)
  ex := fun σ H F L δ P c a δ' Q R e k => by cases e
theorem mn_var {i : Nat} : MnE K mg W (tVar i) (var i) where
  ok := fun σ H F L δ P r δ' Q R e k => by
    simp only [var] at e
    cases q : δ.getD i none with
    | none => rw [q] at e; cases e
    | some t =>
      obtain ⟨v, h1, h2⟩ := R.at_ i t q
      refine ⟨v, getD_some h1, ?_⟩
      rw [q] at e
      cases t with
      | d x => cases e; exact k v H F P Post.refl R h2.1
      | _ => cases e; exact k v H F P Post.refl R h1
  ex := fun σ H F L δ P c a δ' Q R e k => by
    simp only [var] at e
    split at e <;> cases e
end

/-! ### rules: names, constants, operators, calls of built-ins -/
section
variable {X : Cx} {W : WX} {a b e : Expr} {es : List Expr} {fa fb : Ex} {pos p : Pos} {ta tb : TE} {tl : TA}
theorem de_var (i : Nat) {x : Str} (hN : X.N[i]? = some x := by rfl) (hv : Vis X.env.scope x := by first | exact Or.inl rfl | exact Or.inr (Or.inl rfl) | exact Or.inr (Or.inr rfl)) (hd : (x == ("__debug__" : Str)) = false := by decide)
    (hcd : (x == ("__classdict__" : Str)) = false := by decide) : DE X W (.Name x pos) (tVar i) (var i) := ⟨pe_var hN hv hd hcd, mn_var⟩
theorem de_int {i : Int} {j : Nat} : DE X W (.Constant (.int i) j pos) (tC (.int i)) (cst (.int i)) := ⟨pe_int, mn_cst fun _ => .int i⟩
theorem de_bl {i : Bool} {j : Nat} : DE X W (.Constant (.bool i) j pos) (tC (.bl i)) (cst (.bool i)) := ⟨pe_bl, mn_cst fun _ => .bl i⟩
theorem de_non {j : Nat} : DE X W (.Constant .none j pos) (tC .non) (cst .none) := ⟨pe_non, mn_cst fun _ => .non⟩
theorem de_str {i : Str} {j : Nat} : DE X W (.Constant (.str i) j pos) (tC (.str i)) (cst (.str i)) := ⟨pe_str, mn_cst fun _ => .str i⟩
/-- a module's int, a module's def, as a value -/
theorem de_globI {x : Str} {i : Int} {u : Value} (hm : X.mg x = some u) (r : ∃ t, u = Value.int i t) (hg : Gl X x := by rfl) (hd : (x == ("__debug__" : Str)) = false := by decide) : DE X W (.Name x pos) (tC (.int i)) (cst (.int i)) :=
  ⟨pe_glob (v := .int i) hg hm r hd, mn_cst fun _ => .int i⟩
theorem de_globF {x : Str} {f : Addr} (hm : X.mg x = some (.ref f)) (hg : Gl X x := by rfl) (hd : (x == ("__debug__" : Str)) = false := by decide) : DE X W (.Name x pos) (tC (.ref f)) (cst (fnD x)) :=
  ⟨pe_glob (v := .ref f) hg hm rfl hd, mn_cst fun _ => .fn hm⟩
theorem de_frz (h : DE X W e ta fa) : DE X W e ta (frzE fa) := ⟨h.pe, mn_frz h.mn⟩
theorem de_op1 {op : UnaryOp} {r : V → Hp → VK → Prop} {g : D → Option D} (ho : UnR X (unaryOp op) r) (hg : Op1 X.K X.mg r g) (ha : DE X W a ta fa) : DE X W (.UnaryOp op a pos) (tUn r ta) (op1 g fa) :=
  ⟨pe_un ho ha.pe, mn_op1 hg ha.mn⟩
theorem de_op2 {op : Operator} {r : R2} {g : D → D → Option D} (ho : OpR X (binaryOp op) r) (hg : Op2 X.K X.mg r g) (ha : DE X W a ta fa) (hb : DE X W b tb fb) : DE X W (.BinOp a op b pos) (tOp r ta tb) (op2 g fa fb) :=
  ⟨pe_op ho ha.pe hb.pe, mn_op2 hg ha.mn hb.mn⟩
theorem de_cmp {op : CmpOp} {r : R2} {g : D → D → Option D} (ho : OpR X (compareOp op) r) (hg : Op2 X.K X.mg r g) (ha : DE X W a ta fa) (hb : DE X W b tb fb) (hm : behindInMarks op b = false) : DE X W (.Compare a [op] [b] pos) (tOp r ta tb) (op2 g fa fb) :=
  ⟨pe_cmpR ho ha.pe hb.pe hm, mn_op2 hg ha.mn hb.mn⟩
theorem da_nil : DA X W [] tNil (evA []) := ⟨pa_nil, mn_nil⟩
theorem da_cons {fs : List Ex} (ha : DE X W e ta fa) (hr : DA X W es tl (evA fs)) (hs : starEach (e :: es) X.env = (false, eval e X.env) :: starEach es X.env := by rfl) : DA X W (e :: es) (tCons ta tl) (evA (fa :: fs)) :=
  ⟨pa_cons ha.pe hr.pe hs, mn_cons ha.mn hr.mn⟩
theorem de_callB {x : Str} {id : String} {r : List V → Hp → VK → Prop} {g : List D → Option D} {fs : List Ex} (hc : CallR X (.builtin id) r) (hgr : OpA X.K X.mg r g) (hm : X.mg x = none) (hv : bootBuiltins x = some (.builtin id)) (ha : DA X W (e :: es) tl (evA fs)) (hg : Gl X x := by rfl) (hn : x ≠ "__name__" := by decide) (hdb : (x == ("__debug__" : Str)) = false := by decide)
    (he : starEach (e :: es) X.env = (false, eval e X.env) :: starEach es X.env := by rfl) (hpl : (backTo pos (starEach es X.env)).any (·.1) = false := by rfl) : DE X W (.Call (.Name x p) (e :: es) [] pos) (tCB r tl) (opA g fs) :=
  ⟨pe_callB hc hg hm hv ha.pe hn hdb he hpl, mn_opA hgr ha.mn⟩
theorem de_callTy {x : Str} {id : String} {r : List V → Hp → VK → Prop} {g : List D → Option D} {fs : List Ex} (hc : CallR X (.type id) r) (hgr : OpA X.K X.mg r g) (hm : X.mg x = none) (hv : bootBuiltins x = some (.type id)) (ha : DA X W (e :: es) tl (evA fs)) (hg : Gl X x := by rfl) (hn : x ≠ "__name__" := by decide) (hdb : (x == ("__debug__" : Str)) = false := by decide)
    (he : starEach (e :: es) X.env = (false, eval e X.env) :: starEach es X.env := by rfl) (hpl : (backTo pos (starEach es X.env)).any (·.1) = false := by rfl) : DE X W (.Call (.Name x p) (e :: es) [] pos) (tCB r tl) (opA g fs) :=
  ⟨pe_callTy hc hg hm hv ha.pe hn hdb he hpl, mn_opA hgr ha.mn⟩
end
end Dl

/-! DlBm: tuple * int for all small ints. -/
namespace Dl
open PySem PySem.Spec PyProof.Rows L2
theorem tuple_mulW1 (l : Addr) (items : Array Value) (n : Nat) (dd : Option Addr) (sl : Array (Option Value)) (x : Int) (u : Tok) (c0 : (decide (x < -(2 ^ 63)) || decide (x ≥ 2 ^ 63)) = false) (c1 : (items.isEmpty || x == 1) = true) :
    Meets (Builtin.«tuple.__mul__» ⟨[.ref l, .int x u], []⟩) (fun _ R s => s.heap.get? l = some { cls := .type "tuple", dict := dd, data := .seq items n, slots := sl } ∧
      R (.ok (.ret (Value.ref l))) s) :=
  .of_wp fun prog w A R s h => by
    obtain ⟨hp, g, d, tk, os⟩ := s
    obtain ⟨hl, h⟩ := h
    have f1 := AutoSeq1.idx_int
    wp_walk using wpAny_loadPart' hl
    refine wpAny_ite_false (decide_eq_false (by rw [c0]; exact Bool.false_ne_true)) ?_; wp_walk using wpAny_loadPart' hl
    exact ⟨_, rfl, h⟩
theorem tuple_mulW0 (l : Addr) (items : Array Value) (n : Nat) (dd : Option Addr) (sl : Array (Option Value)) (x : Int) (u : Tok) (c0 : (decide (x < -(2 ^ 63)) || decide (x ≥ 2 ^ 63)) = false) (c1 : (items.isEmpty || x == 1) = false) (c2 : (decide (x ≤ 0) || items.isEmpty) = true) :
    Meets (Builtin.«tuple.__mul__» ⟨[.ref l, .int x u], []⟩) (fun _ R s => s.heap.get? l = some { cls := .type "tuple", dict := dd, data := .seq items n, slots := sl } ∧
      R (.ok (.ret (Value.ref s.heap.objs.size))) { s with heap := s.heap.push { cls := Value.type "tuple", data := Data.seq #[] }, toks := s.toks }) :=
  .of_wp fun prog w A R s h => by
    obtain ⟨hp, g, d, tk, os⟩ := s
    obtain ⟨hl, h⟩ := h
    have f1 := AutoSeq1.idx_int
    wp_walk using wpAny_loadPart' hl
    repeat (first
      | (refine wpAny_ite_false (decide_eq_false (by rw [c0]; exact Bool.false_ne_true)) ?_; wp_walk using wpAny_loadPart' hl)
      | (refine wpAny_ite_false (decide_eq_false (by rw [c1]; exact Bool.false_ne_true)) ?_; wp_walk using wpAny_loadPart' hl)
      | (refine wpAny_ite_true (decide_eq_true c2) ?_; wp_walk using wpAny_loadPart' hl))
    exact ⟨_, rfl, h⟩
/-- t * k for any small k -/
def rRepA (K : PySem.W.Frag) : R2 := fun x y H Q => ∃ l k xs, x = .ref l ∧ y = .int k ∧ SqT K H l xs ∧ xs ≠ [] ∧ -1000000000 ≤ k ∧ k ≤ 1000 ∧ xs.length ≤ 1000 ∧ (k = 1 → Q (.ref l) H) ∧ (k ≠ 1 → ∀ p, H p = none → Q (.ref p) (upd H p (.tup (List.replicate k.toNat xs).flatten)))
section
variable {X : Cx}
theorem op_repA : OpR X (binaryOp .Mult) (rRepA X.K) := by
  intro pins s σ H x y v u Q I rx ry h
  obtain ⟨l, k, xs, rfl, rfl, hT, hne, h1, h2, hz, q1, q⟩ := h
  by_cases hk2 : 2 ≤ k
  · exact op_repT pins s σ H _ _ v u Q I rx ry ⟨l, k, xs, rfl, rfl, hT, hne, hk2, h2, hz, q (by omega)⟩
  cases rx
  obtain ⟨t, rfl⟩ := ry
  obtain ⟨its, r, ⟨⟨cls, dd, data, sl⟩, ho, hc, n, hd⟩, hs⟩ := I.tuple hT
  simp only at hc hd
  subst hc hd
  have hle : its.length = xs.length := r.length.symm
  have hn : its ≠ [] := fun e => hne (by
    rw [e] at hle
    exact List.eq_nil_of_length_eq_zero hle.symm)
  have hi : its.toArray.isEmpty = false := by
    cases its with
    | nil => exact absurd rfl hn
    | cons a b => rfl
  have c0 : (decide (k < -(2 ^ 63)) || decide (k ≥ 2 ^ 63)) = false := by
    rw [decide_eq_false (by omega), decide_eq_false (by omega)] <;> rfl
  by_cases hk : k = 1
  · subst hk
    refine wpAny_binaryOp_repeat_ref (T := "tuple") (U := "int") (by decide) ⟨_, ho, rfl⟩ (fun s' => typeIs_int s' 1 t) noFill_tuple_mul F.fills_int_mul F.slot_int_rmul repeat_tuple F.slot_int_index.lookup
      (call_meets F.slot_int_rmul (typeIs_int s 1 t) F.entry_int_rmul (F.args_int_rmul_2 _ _) (int_rmul_tuple 1 t l its.toArray n dd sl)
        ⟨ho, rfl, ⟨_, ho, rfl⟩, call_meets F.slot_tuple_mul ⟨_, ho, rfl⟩ F.entry_tuple_mul (F.args_tuple_mul_2 _ _) (tuple_mulW1 l its.toArray n dd sl 1 t c0 (by rw [hi]; rfl)) ⟨ho, ?_⟩⟩)
    exact ⟨.ref l, H, I, rfl, q1 rfl⟩
  · have c1 : (its.toArray.isEmpty || k == 1) = false := by
      rw [hi, Bool.false_or]
      exact beq_eq_false_iff_ne.mpr hk
    have c2 : (decide (k ≤ 0) || its.toArray.isEmpty) = true := by
      rw [decide_eq_true (by omega)] <;> rfl
    refine wpAny_binaryOp_repeat_ref (T := "tuple") (U := "int") (by decide) ⟨_, ho, rfl⟩ (fun s' => typeIs_int s' k t) noFill_tuple_mul F.fills_int_mul F.slot_int_rmul repeat_tuple F.slot_int_index.lookup
      (call_meets F.slot_int_rmul (typeIs_int s k t) F.entry_int_rmul (F.args_int_rmul_2 _ _) (int_rmul_tuple k t l its.toArray n dd sl)
        ⟨ho, rfl, ⟨_, ho, rfl⟩, call_meets F.slot_tuple_mul ⟨_, ho, rfl⟩ F.entry_tuple_mul (F.args_tuple_mul_2 _ _) (tuple_mulW0 l its.toArray n dd sl k t c0 c1 c2) ⟨ho, ?_⟩⟩)
    have e0 : (List.replicate k.toNat xs).flatten = [] := by rw [show k.toNat = 0 by omega]; rfl
    have q' := q hk s.heap.objs.size (I.hok.fresh (Nat.le_refl _))
    rw [e0] at q'
    refine ⟨.ref s.heap.objs.size, _, I.laid (t' := s.toks) (o := .tup []) (fun b ob q => Heap.get?_push_of_some _ q) (Nat.le_refl _) ?_, rfl, q'⟩
    exact ⟨by rw [sizeLine_eq]; exact Nat.zero_le _, [], .nil, IsTup.new _ _⟩
end
end Dl

/-! DlC: the operators upon data. -/
namespace Dl
open PySem L2

/-- room for k calls, no guard around -/
structure Cz (X : Cx) (k : Nat) : Prop where
  dp : X.A.depth + 3 * k + 5 < recursionLimit
  un : X.A.units + 16 * k + 200 < cLine
  grd : X.A.guards = some []
/-- .. and no exception is handled -/
structure Ctx (X : Cx) (k : Nat) : Prop extends Cz X k where
  calm : X.calm = true
  hd : X.A.handled = none
theorem Ctx.room {X : Cx} {k : Nat} (c : Ctx X k) : Room k X.A := ⟨c.hd, c.dp, c.un⟩
theorem Cz.u65 {X : Cx} {k : Nat} (c : Cz X k) : X.A.units + 65 < cLine := by have := c.un; omega
theorem Ctx.down {X : Cx} {j k : Nat} (c : Ctx X k) (h : j ≤ k) : Ctx X j := ⟨⟨by have := c.dp; omega, by have := c.un; omega, c.grd⟩, c.calm, c.hd⟩

section
variable {K : PySem.W.Frag} {mg : Str → Option Value} {F H : Hp} {v : V} {l : List D}
theorem szl {n : Nat} (h : n ≤ 16777216) : n ≤ sizeLine := by rw [sizeLine_eq]; exact h
theorem szl' {n : Nat} (h : n < 16777216) : n < sizeLine := by rw [sizeLine_eq]; exact h
theorem vwI {i : Int} (h : Vw K mg F H v (.int i)) : v = .int i := by cases h; rfl
theorem vwB {i : Bool} (h : Vw K mg F H v (.bool i)) : v = .bl i := by cases h; rfl
theorem vwS {i : Str} (h : Vw K mg F H v (.str i)) : v = .str i := by cases h; rfl
theorem vwN (h : Vw K mg F H v .none) : v = .non := by cases h; rfl
end

/-! ### + - * // % -/
def gAdd : D → D → Option D
  | .int i, .int j => some (.int (i + j))
  | .str x, .str y => if x.length + y.length ≤ 16777216 then some (.str (x ++ y)) else none
  | .tuple l, .tuple m => if l.length + m.length ≤ 16777216 then some (.tuple (l ++ m)) else none
  | .list l, .list m => if l.length + m.length ≤ 16777216 then some (.list (l ++ m)) else none
  | _, _ => none
def gSub : D → D → Option D
  | .int i, .int j => some (.int (i - j))
  | _, _ => none
noncomputable def gMul : D → D → Option D
  | .int i, .int j => cif ((-(2 ^ 64) < i ∧ i < 2 ^ 64) ∨ (-(2 ^ 64) < j ∧ j < 2 ^ 64)) (some (.int (i * j))) (none)
  | .list l, .int k => cif (-(2 ^ 63) ≤ k ∧ k < 2 ^ 63 ∧ l.length * k.toNat ≤ 16777216) (some (.list (List.replicate k.toNat l).flatten)) (none)
  | .tuple l, .int k => cif (l ≠ [] ∧ -1000000000 ≤ k ∧ k ≤ 1000 ∧ l.length ≤ 1000) (some (.tuple (List.replicate k.toNat l).flatten)) (none)
  | _, _ => none
def gFdiv : D → D → Option D
  | .int i, .int j => if 0 < j ∧ j.natAbs.log2 < 9000 then some (.int (i / j)) else none
  | _, _ => none
def gMod : D → D → Option D
  | .int i, .int j => if 0 < j then some (.int (i % j)) else none
  | _, _ => none
def gPow : D → D → Option D
  | .int i, .int j => if 0 ≤ j ∧ j ≤ 1000000 ∧ i.natAbs < 2 ^ 64 then some (.int (i ^ j.toNat)) else none
  | _, _ => none
def gShl : D → D → Option D
  | .int i, .int j => if 0 ≤ j ∧ j ≤ 1000000 ∧ i.natAbs < 2 ^ 64 then some (.int (i * 2 ^ j.toNat)) else none
  | _, _ => none
def gShr : D → D → Option D
  | .int i, .int j => if 0 ≤ j then some (.int (i / 2 ^ j.toNat)) else none
  | _, _ => none
def gNeg : D → Option D
  | .int i => some (.int (-i))
  | _ => none
section
variable {K : PySem.W.Frag} {mg : Str → Option Value} {X : Cx}
theorem o2_int {C : Int → Int → Prop} {g : Int → Int → Int} {G : D → D → Option D} (h : ∀ x y z, G x y = some z → ∃ i j, x = .int i ∧ y = .int j ∧ C i j ∧ z = .int (g i j)) : Op2 K mg (rI C fun i j => .int (g i j)) G := by
  intro F H v w x y z Q sub hx hy e k
  obtain ⟨i, j, rfl, rfl, c, rfl⟩ := h x y z e
  exact ⟨i, j, vwI hx, vwI hy, c, k _ H F (Grow.refl sub) (.int _)⟩
theorem o2_int0 {g : Int → Int → Int} {G : D → D → Option D} (h : ∀ x y z, G x y = some z → ∃ i j, x = .int i ∧ y = .int j ∧ z = .int (g i j)) : Op2 K mg (rI0 fun i j => .int (g i j)) G := by
  intro F H v w x y z Q sub hx hy e k
  obtain ⟨i, j, rfl, rfl, rfl⟩ := h x y z e
  exact ⟨i, j, vwI hx, vwI hy, k _ H F (Grow.refl sub) (.int _)⟩
theorem fzNewL {F H : Hp} {p : Addr} {vs : List V} {l : List D} (sub : Same F H) (n : H p = none) (h : FzAll K mg F vs l) : Grow F H (upd F p (.lst vs)) (upd H p (.lst vs)) ∧ Fz K mg (upd F p (.lst vs)) (.ref p) (.list l) :=
  ⟨Grow.upd sub n, .lst upd_same (h.mono (Grow.upd (o := .lst vs) sub n).mono)⟩
theorem fzNewT {F H : Hp} {p : Addr} {vs : List V} {l : List D} (sub : Same F H) (n : H p = none) (h : FzAll K mg F vs l) : Grow F H (upd F p (.tup vs)) (upd H p (.tup vs)) ∧ Fz K mg (upd F p (.tup vs)) (.ref p) (.tuple l) :=
  ⟨Grow.upd sub n, .tup (.inl (.inl upd_same)) (h.mono (Grow.upd (o := .tup vs) sub n).mono)⟩

abbrev rAdd1 : R2 := rI0 fun i j => V.int (i + j)
abbrev rAdd2 : R2 := fun x y H Q => ∃ i j, x = .str i ∧ y = .str j ∧ i.length + j.length ≤ sizeLine ∧ Q (.str (i ++ j)) H
def rAdd (K : PySem.W.Frag) : R2 := fun x y H Q => rAdd1 x y H Q ∨ (fun x y H Q => rAdd2 x y H Q ∨ (fun x y H Q => rCat x y H Q ∨ rCatA K x y H Q) x y H Q) x y H Q
theorem op_addD : OpR X (binaryOp .Add) (rAdd X.K) := op_add.or (op_add_str.or (op_cat.or op_catA))
theorem o2_add : Op2 K mg (rAdd K) gAdd := by
  intro F H v w x y z Q sub hx hy e k
  cases x with
  | int i =>
    cases y with
    | int j => cases e; exact .inl ⟨i, j, vwI hx, vwI hy, k _ H F (Grow.refl sub) (.int _)⟩
    | _ => cases e
  | str i =>
    cases y with
    | str j =>
      simp only [gAdd] at e
      split at e
      · rename_i hz
        cases e
        exact .inr (.inl ⟨i, j, vwS hx, vwS hy, szl hz, k _ H F (Grow.refl sub) (.str _)⟩)
      · cases e
    | _ => cases e
  | list l =>
    cases y with
    | list m =>
      simp only [gAdd] at e
      split at e
      · rename_i hz
        cases e
        obtain ⟨a, vs, rfl, h1, h2⟩ := hx
        obtain ⟨b, ws, rfl, h3, h4⟩ := hy
        refine .inr (.inr (.inl ⟨a, b, vs, ws, rfl, rfl, h1, h3, by rw [h2.len, h4.len]; exact szl hz, fun p n => ?_⟩))
        obtain ⟨g, f⟩ := fzNewL sub n (h2.append h4)
        exact k _ _ _ g f
      · cases e
    | _ => cases e
  | tuple l =>
    cases y with
    | tuple m =>
      simp only [gAdd] at e
      split at e
      · rename_i hz
        cases e
        obtain ⟨a, vs, rfl, h1, h2⟩ := hx
        obtain ⟨b, ws, rfl, h3, h4⟩ := hy
        refine .inr (.inr (.inr ⟨a, b, vs, ws, rfl, rfl, same_sqT sub h1, same_sqT sub h3, by rw [h2.len, h4.len]; exact szl hz, fun e => ?_, fun _ e => ?_, fun _ _ p n => ?_⟩))
        · subst e
          cases h2
          exact k _ H F (Grow.refl sub) (.tup h3 h4)
        · subst e
          cases h4
          rw [List.append_nil] at k
          exact k _ H F (Grow.refl sub) (.tup h1 h2)
        · obtain ⟨g, f⟩ := fzNewT sub n (h2.append h4)
          exact k _ _ _ g f
      · cases e
    | _ => cases e
  | _ => cases e
theorem o2_sub : Op2 K mg (rI0 fun i j => .int (i - j)) gSub := o2_int0 fun x y z e => by
  cases x with
  | int i => cases y with
    | int j => cases e; exact ⟨i, j, rfl, rfl, rfl⟩
    | _ => cases e
  | _ => cases e
theorem o2_fdiv : Op2 K mg (rI CDivW fun i j => .int (i / j)) gFdiv := o2_int fun x y z e => by
  cases x with
  | int i => cases y with
    | int j =>
      simp only [gFdiv] at e
      split at e
      · rename_i h; cases e; exact ⟨i, j, rfl, rfl, h, rfl⟩
      · cases e
    | _ => cases e
  | _ => cases e
theorem o2_mod : Op2 K mg (rI (fun _ j => 0 < j) fun i j => .int (i % j)) gMod := o2_int fun x y z e => by
  cases x with
  | int i => cases y with
    | int j =>
      simp only [gMod] at e
      split at e
      · rename_i h; cases e; exact ⟨i, j, rfl, rfl, h, rfl⟩
      · cases e
    | _ => cases e
  | _ => cases e
theorem o2_pow : Op2 K mg (rI CPow fun i j => .int (i ^ j.toNat)) gPow := o2_int fun x y z e => by
  cases x with
  | int i => cases y with
    | int j =>
      simp only [gPow] at e
      split at e
      · rename_i h; cases e; exact ⟨i, j, rfl, rfl, h, rfl⟩
      · cases e
    | _ => cases e
  | _ => cases e
theorem o2_shl : Op2 K mg (rI CPow fun i j => .int (i * 2 ^ j.toNat)) gShl := o2_int fun x y z e => by
  cases x with
  | int i => cases y with
    | int j =>
      simp only [gShl] at e
      split at e
      · rename_i h; cases e; exact ⟨i, j, rfl, rfl, h, rfl⟩
      · cases e
    | _ => cases e
  | _ => cases e
theorem o2_shr : Op2 K mg (rI (fun _ j => 0 ≤ j) fun i j => .int (i / 2 ^ j.toNat)) gShr := o2_int fun x y z e => by
  cases x with
  | int i => cases y with
    | int j =>
      simp only [gShr] at e
      split at e
      · rename_i h; cases e; exact ⟨i, j, rfl, rfl, h, rfl⟩
      · cases e
    | _ => cases e
  | _ => cases e
theorem o1_neg : Op1 K mg (rU fun i => .int (-i)) gNeg := by
  intro F H v x z Q sub hx e k
  cases x with
  | int i => cases e; exact ⟨i, vwI hx, k _ H F (Grow.refl sub) (.int _)⟩
  | _ => cases e
abbrev rMul1 : R2 := rI CMul fun i j => V.int (i * j)
def rMul (K : PySem.W.Frag) : R2 := fun x y H Q => rMul1 x y H Q ∨ (fun x y H Q => rRep x y H Q ∨ rRepA K x y H Q) x y H Q
theorem op_mulD : OpR X (binaryOp .Mult) (rMul X.K) := op_mul.or (op_rep.or op_repA)
theorem FzAll.rep {F : Hp} {vs : List V} {l : List D} (h : FzAll K mg F vs l) : ∀ n : Nat, FzAll K mg F (List.replicate n vs).flatten (List.replicate n l).flatten
  | 0 => by simpa using FzAll.nil
  | n + 1 => by
    rw [List.replicate_succ, List.replicate_succ, List.flatten_cons, List.flatten_cons]
    exact h.append (FzAll.rep h n)
theorem o2_mul : Op2 K mg (rMul K) gMul := by
  intro F H v w x y z Q sub hx hy e k
  cases x with
  | int i =>
    cases y with
    | int j =>
      simp only [gMul, cif] at e
      split at e
      · rename_i h
        cases e
        exact .inl ⟨i, j, vwI hx, vwI hy, h, k _ H F (Grow.refl sub) (.int _)⟩
      · cases e
    | _ => cases e
  | list l =>
    cases y with
    | int j =>
      simp only [gMul, cif] at e
      split at e
      · rename_i h
        cases e
        obtain ⟨a, vs, rfl, h1, h2⟩ := hx
        refine .inr (.inl ⟨a, j, vs, rfl, vwI hy, h1, h.1, h.2.1, by rw [h2.len]; exact szl h.2.2, fun p n => ?_⟩)
        obtain ⟨g, f⟩ := fzNewL sub n (h2.rep j.toNat)
        exact k _ _ _ g f
      · cases e
    | _ => cases e
  | tuple l =>
    cases y with
    | int j =>
      simp only [gMul, cif] at e
      split at e
      · rename_i h
        cases e
        obtain ⟨a, vs, rfl, h1, h2⟩ := hx
        refine .inr (.inr ⟨a, j, vs, rfl, vwI hy, same_sqT sub h1, fun z => ?_, h.2.1, h.2.2.1, by rw [h2.len]; exact h.2.2.2, fun hj => ?_, fun _ p n => ?_⟩)
        · subst z
          cases h2
          exact h.1 rfl
        · subst hj
          refine k _ H F (Grow.refl sub) ?_
          have e1 : (List.replicate (1 : Int).toNat l).flatten = l := by simp
          rw [e1]
          exact .tup h1 h2
        · obtain ⟨g, f⟩ := fzNewT sub n (h2.rep j.toNat)
          exact k _ _ _ g f
      · cases e
    | _ => cases e
  | _ => cases e

/-! ### comparisons -/
def shp (x : D) : Bool := SeqAt.shaped x
theorem shp_nd {x : D} (h : shp x = true) : x.hasDict = false := PyData.hasDict_of_canLay _ (SeqAt.canLay_of_shaped h)
def gEq : D → D → Option D
  | .str a, .str b => some (.bool (a == b))
  | x, y => if shp x = true ∧ shp y = true then some (.bool (PyData.eqv x y)) else none
def gNe : D → D → Option D
  | .str a, .str b => some (.bool (!(a == b)))
  | x, y => if shp x = true ∧ shp y = true then some (.bool (!PyData.eqv x y)) else none
def rEqE (K : PySem.W.Frag) : R2 := fun x y H Q => rEqD K x y H Q ∨ rEq x y H Q
def rNeE (K : PySem.W.Frag) : R2 := fun x y H Q => rNeD K x y H Q ∨ rNe x y H Q
theorem op_eqE {X : Cx} (hu : X.A.units + 64 < cLine) : OpR X (compareOp .Eq) (rEqE X.K) := (op_eqD hu).or op_eq
theorem op_neE {X : Cx} (hu : X.A.units + 64 < cLine) : OpR X (compareOp .NotEq) (rNeE X.K) := (op_neD hu).or op_ne
theorem o2_eq : Op2 K mg (rEqE K) gEq := by
  intro F H v w x y z Q sub hx hy e k
  unfold gEq at e
  split at e
  · rename_i i j
    cases vwS hx
    cases vwS hy
    cases e
    refine .inr ⟨rfl, ?_⟩
    rw [dec_str]
    exact k _ H F (Grow.refl sub) (.bl _)
  · split at e
    · rename_i h
      cases e
      exact .inl ⟨x, y, hx.dp sub (shp_nd h.1), hy.dp sub (shp_nd h.2), h.1, h.2, k _ H F (Grow.refl sub) (.bl _)⟩
    · cases e
theorem o2_ne : Op2 K mg (rNeE K) gNe := by
  intro F H v w x y z Q sub hx hy e k
  unfold gNe at e
  split at e
  · rename_i i j
    cases vwS hx
    cases vwS hy
    cases e
    refine .inr ⟨rfl, ?_⟩
    rw [dec_str]
    exact k _ H F (Grow.refl sub) (.bl _)
  · split at e
    · rename_i h
      cases e
      exact .inl ⟨x, y, hx.dp sub (shp_nd h.1), hy.dp sub (shp_nd h.2), h.1, h.2, k _ H F (Grow.refl sub) (.bl _)⟩
    · cases e
def intsOf : List D → Option (List Int)
  | [] => some []
  | .int i :: r => (intsOf r).map (i :: ·)
  | _ => none
theorem intsOf_eq : ∀ {l : List D} {ns : List Int}, intsOf l = some ns → l = ns.map PyData.int
  | [], _, e => by cases e; rfl
  | .int i :: r, ns, e => by
    simp only [intsOf, Option.map_eq_some_iff] at e
    obtain ⟨m, e1, rfl⟩ := e
    rw [List.map_cons, intsOf_eq e1]
  | .none :: _, _, e => by cases e
  | .bool _ :: _, _, e => by cases e
  | .str _ :: _, _, e => by cases e
  | .list _ :: _, _, e => by cases e
  | .tuple _ :: _, _, e => by cases e
  | .dict _ :: _, _, e => by cases e
theorem intsOf_map (ns : List Int) : intsOf (ns.map PyData.int) = some ns := by
  induction ns with
  | nil => rfl
  | cons n r ih => simp only [List.map_cons, intsOf, ih, Option.map_some]
def gLt : D → D → Option D
  | .int i, .int j => some (.bool (decide (i < j)))
  | .tuple l, .tuple m => (intsOf l).bind fun ns => (intsOf m).map fun ms => .bool (HT.lexLt ns ms)
  | _, _ => none
def gLe : D → D → Option D
  | .int i, .int j => some (.bool (decide (i ≤ j)))
  | _, _ => none
def gGt : D → D → Option D
  | .int i, .int j => some (.bool (decide (j < i)))
  | _, _ => none
def gGe : D → D → Option D
  | .int i, .int j => some (.bool (decide (j ≤ i)))
  | _, _ => none
theorem o2_cmpI {g : Int → Int → Bool} {G : D → D → Option D} (h : ∀ x y z, G x y = some z → ∃ i j, x = .int i ∧ y = .int j ∧ z = .bool (g i j)) : Op2 K mg (rI0 fun i j => .bl (g i j)) G := by
  intro F H v w x y z Q sub hx hy e k
  obtain ⟨i, j, rfl, rfl, rfl⟩ := h x y z e
  exact ⟨i, j, vwI hx, vwI hy, k _ H F (Grow.refl sub) (.bl _)⟩
theorem o2_le : Op2 K mg (rI0 fun i j => .bl (decide (i ≤ j))) gLe := o2_cmpI fun x y z e => by
  cases x with
  | int i => cases y with
    | int j => cases e; exact ⟨i, j, rfl, rfl, rfl⟩
    | _ => cases e
  | _ => cases e
theorem o2_gt : Op2 K mg (rI0 fun i j => .bl (decide (j < i))) gGt := o2_cmpI fun x y z e => by
  cases x with
  | int i => cases y with
    | int j => cases e; exact ⟨i, j, rfl, rfl, rfl⟩
    | _ => cases e
  | _ => cases e
theorem o2_ge : Op2 K mg (rI0 fun i j => .bl (decide (j ≤ i))) gGe := o2_cmpI fun x y z e => by
  cases x with
  | int i => cases y with
    | int j => cases e; exact ⟨i, j, rfl, rfl, rfl⟩
    | _ => cases e
  | _ => cases e
abbrev rLt1 : R2 := rI0 fun i j => V.bl (decide (i < j))
def rLt (K : PySem.W.Frag) : R2 := fun x y H Q => rLt1 x y H Q ∨ rLtT K x y H Q
theorem op_ltD {k : Nat} (c : Cz X k) : OpR X (compareOp .Lt) (rLt X.K) := op_lt.or (op_ltT (by have := c.un; omega))
theorem o2_lt : Op2 K mg (rLt K) gLt := by
  intro F H v w x y z Q sub hx hy e k
  cases x with
  | int i => cases y with
    | int j => cases e; exact .inl ⟨i, j, vwI hx, vwI hy, k _ H F (Grow.refl sub) (.bl _)⟩
    | _ => cases e
  | tuple l => cases y with
    | tuple m =>
      simp only [gLt, Option.bind_eq_some_iff, Option.map_eq_some_iff] at e
      obtain ⟨ns, e1, ms, e2, rfl⟩ := e
      obtain ⟨a, vs, rfl, h1, h2⟩ := hx
      obtain ⟨b, ws, rfl, h3, h4⟩ := hy
      rw [intsOf_eq e1] at h2
      rw [intsOf_eq e2] at h4
      rw [h2.ints] at h1
      rw [h4.ints] at h3
      exact .inr ⟨a, b, ns, ms, rfl, rfl, same_sqT sub h1, same_sqT sub h3, k _ H F (Grow.refl sub) (.bl _)⟩
    | _ => cases e
  | _ => cases e
def isNo : D → Bool
  | .none => true
  | _ => false
def gIsN (x : D) : D → Option D
  | .none => some (.bool (isNo x))
  | _ => none
def gNotN (x : D) : D → Option D
  | .none => some (.bool (!isNo x))
  | _ => none
theorem vw_non {F H : Hp} {v : V} {x : D} (h : Vw K mg F H v x) : decide (v = .non) = isNo x := by
  cases x with
  | none => rw [vwN h]; rfl
  | bool b => rw [vwB h]; rfl
  | int b => rw [vwI h]; rfl
  | str b => rw [vwS h]; rfl
  | list l => obtain ⟨a, _, rfl, _⟩ := h; rfl
  | tuple l => obtain ⟨a, _, rfl, _⟩ := h; rfl
  | dict l => obtain ⟨a, rfl, _⟩ := h; rfl
theorem o2_isN : Op2 K mg (fun x y H Q => y = .non ∧ Q (.bl (decide (x = .non))) H) gIsN := by
  intro F H v w x y z Q sub hx hy e k
  cases y with
  | none =>
    cases e
    refine ⟨vwN hy, ?_⟩
    rw [vw_non hx]
    exact k _ H F (Grow.refl sub) (.bl _)
  | _ => cases e
theorem o2_notN : Op2 K mg (fun x y H Q => y = .non ∧ Q (.bl (!decide (x = .non))) H) gNotN := by
  intro F H v w x y z Q sub hx hy e k
  cases y with
  | none =>
    cases e
    refine ⟨vwN hy, ?_⟩
    rw [vw_non hx]
    exact k _ H F (Grow.refl sub) (.bl _)
  | _ => cases e
/-! ### in -/
def rInT (K : PySem.W.Frag) : R2 := fun x y H Q => ∃ d ds, Dp K H x d ∧ Dp K H y (.tuple ds) ∧ SeqAt.shaped d = true ∧ SeqAt.shaped (.tuple ds) = true ∧ Q (.bl (ds.any fun z => PyData.eqv z d)) H
def rNotInT (K : PySem.W.Frag) : R2 := fun x y H Q => ∃ d ds, Dp K H x d ∧ Dp K H y (.tuple ds) ∧ SeqAt.shaped d = true ∧ SeqAt.shaped (.tuple ds) = true ∧ Q (.bl (!ds.any fun z => PyData.eqv z d)) H
theorem room_inT {A : Around} {ds : List D} {d : D} (h : SeqAt.shaped d = true) (hu : A.units + 65 < cLine) : A.units + 1 + min (PyData.depthAll ds) d.depth < cLine := by
  have h1 := SeqAt.depth_of_shaped h
  have h2 : min (PyData.depthAll ds) d.depth ≤ d.depth := Nat.min_le_right _ _
  omega
theorem op_inT (hu : X.A.units + 65 < cLine) : OpR X (compareOp .In) (rInT X.K) := by
  intro pins s σ H x y v u Q I rx ry h
  obtain ⟨d, ds, hd, he, sd, se, q⟩ := h
  obtain ⟨as, r1⟩ := Dp.reads I d x v hd rx
  obtain ⟨bs, r2⟩ := Dp.reads I (.tuple ds) y u he ry
  exact SeqAt.in_tuple_reads r2 r1 (SeqAt.canLay_of_shaped se) (SeqAt.canLay_of_shaped sd) (room_inT sd hu) ⟨.bl _, H, I, rfl, q⟩
theorem op_notInT (hu : X.A.units + 65 < cLine) : OpR X (compareOp .NotIn) (rNotInT X.K) := by
  intro pins s σ H x y v u Q I rx ry h
  obtain ⟨d, ds, hd, he, sd, se, q⟩ := h
  obtain ⟨as, r1⟩ := Dp.reads I d x v hd rx
  obtain ⟨bs, r2⟩ := Dp.reads I (.tuple ds) y u he ry
  exact SeqAt.notIn_tuple_reads r2 r1 (SeqAt.canLay_of_shaped se) (SeqAt.canLay_of_shaped sd) (room_inT sd hu) ⟨.bl _, H, I, rfl, q⟩
def keyOf : D → Option Key
  | .int i => some (.inl i)
  | .str x => some (.inr x)
  | _ => none
def keysOf : List D → Option (List Key)
  | [] => some []
  | x :: r => match keyOf x, keysOf r with
    | some k, some ks => some (k :: ks)
    | _, _ => none
def gInB (x : D) : D → Option Bool
  | .list l => if shp x = true ∧ shp (.list l) = true then some (l.any fun z => PyData.eqv z x) else none
  | .tuple l => if shp x = true ∧ shp (.tuple l) = true then some (l.any fun z => PyData.eqv z x) else none
  | .str t => match x with | .str s => some (!(Builtin.Str.occurrences t s 0 t.length 1).isEmpty) | _ => none
  | _ => none
def gIn (x y : D) : Option D := (gInB x y).map .bool
def gNotIn (x y : D) : Option D := (gInB x y).map fun b => .bool (!b)
abbrev rInS : R2 := fun x y H Q => ∃ i j, x = V.str i ∧ y = V.str j ∧ Q (.bl (!(Builtin.Str.occurrences j i 0 j.length 1).isEmpty)) H
abbrev rNotInS : R2 := fun x y H Q => ∃ i j, x = V.str i ∧ y = V.str j ∧ Q (.bl (!(!(Builtin.Str.occurrences j i 0 j.length 1).isEmpty))) H
def rInA (K : PySem.W.Frag) : R2 := fun x y H Q => rInD K x y H Q ∨ (fun x y H Q => rInT K x y H Q ∨ rInS x y H Q) x y H Q
def rNotInA (K : PySem.W.Frag) : R2 := fun x y H Q => rNotInD K x y H Q ∨ (fun x y H Q => rNotInT K x y H Q ∨ rNotInS x y H Q) x y H Q
theorem op_inA {k : Nat} (c : Cz X k) : OpR X (compareOp .In) (rInA X.K) := (op_inD c.u65).or ((op_inT c.u65).or op_in_str)
theorem op_notInA {k : Nat} (c : Cz X k) : OpR X (compareOp .NotIn) (rNotInA X.K) := (op_notInD c.u65).or ((op_notInT c.u65).or op_notin_str)
theorem o2_in : Op2 K mg (rInA K) gIn := by
  intro F H v w x y z Q sub hx hy e k
  simp only [gIn, Option.map_eq_some_iff] at e
  obtain ⟨b, e, rfl⟩ := e
  cases y with
  | list l =>
    simp only [gInB] at e
    split at e
    · rename_i h; cases e
      exact .inl ⟨x, l, hx.dp sub (shp_nd h.1), hy.dp sub (shp_nd h.2), h.1, h.2, k _ H F (Grow.refl sub) (.bl _)⟩
    · cases e
  | tuple l =>
    simp only [gInB] at e
    split at e
    · rename_i h; cases e
      exact .inr (.inl ⟨x, l, hx.dp sub (shp_nd h.1), hy.dp sub (shp_nd h.2), h.1, h.2, k _ H F (Grow.refl sub) (.bl _)⟩)
    · cases e
  | str t =>
    cases x with
    | str s => cases e; exact .inr (.inr ⟨s, t, vwS hx, vwS hy, k _ H F (Grow.refl sub) (.bl _)⟩)
    | _ => cases e
  | _ => cases e
theorem o2_notIn : Op2 K mg (rNotInA K) gNotIn := by
  intro F H v w x y z Q sub hx hy e k
  simp only [gNotIn, Option.map_eq_some_iff] at e
  obtain ⟨b, e, rfl⟩ := e
  cases y with
  | list l =>
    simp only [gInB] at e
    split at e
    · rename_i h; cases e
      exact .inl ⟨x, l, hx.dp sub (shp_nd h.1), hy.dp sub (shp_nd h.2), h.1, h.2, k _ H F (Grow.refl sub) (.bl _)⟩
    · cases e
  | tuple l =>
    simp only [gInB] at e
    split at e
    · rename_i h; cases e
      exact .inr (.inl ⟨x, l, hx.dp sub (shp_nd h.1), hy.dp sub (shp_nd h.2), h.1, h.2, k _ H F (Grow.refl sub) (.bl _)⟩)
    · cases e
  | str t =>
    cases x with
    | str s => cases e; exact .inr (.inr ⟨s, t, vwS hx, vwS hy, k _ H F (Grow.refl sub) (.bl _)⟩)
    | _ => cases e
  | _ => cases e

/-! ### subscripts -/
def gIx : D → D → Option D
  | .list l, .int i => atI l i
  | .tuple l, .int i => atI l i
  | .str z, .int i => if z.length ≤ 16777216 then (atI z.cps.toList i).map fun c => .str ⟨#[c]⟩ else none
  | _, _ => none
theorem FzAll.atI {F : Hp} {vs : List V} {l : List D} {i : Int} {d : D} (h : FzAll K mg F vs l) (e : L2.atI l i = some d) : ∃ v, L2.atI vs i = some v ∧ Fz K mg F v d := by
  unfold L2.atI at e ⊢
  rw [Option.bind_eq_some_iff] at e
  obtain ⟨j, e1, e2⟩ := e
  rw [h.len, e1, Option.bind_some]
  exact h.get e2
theorem o2_ix : Op2 K mg (rIx K) gIx := by
  intro F H v w x y z Q sub hx hy e k
  cases x with
  | list l => cases y with
    | int i =>
      obtain ⟨a, vs, rfl, h1, h2⟩ := hx
      obtain ⟨u, e1, e2⟩ := h2.atI (show L2.atI l i = some z from e)
      exact .inl ⟨a, vs, i, u, rfl, vwI hy, .inl (.inl h1), e1, k _ H F (Grow.refl sub) e2⟩
    | _ => cases e
  | tuple l => cases y with
    | int i =>
      obtain ⟨a, vs, rfl, h1, h2⟩ := hx
      obtain ⟨u, e1, e2⟩ := h2.atI (show L2.atI l i = some z from e)
      exact .inr (.inl ⟨a, vs, i, u, rfl, vwI hy, same_sqT sub h1, e1, k _ H F (Grow.refl sub) e2⟩)
    | _ => cases e
  | str s => cases y with
    | int i =>
      simp only [gIx] at e
      split at e
      · rename_i hz
        rw [Option.map_eq_some_iff] at e
        obtain ⟨c, e1, rfl⟩ := e
        exact .inr (.inr ⟨s, i, c, vwS hx, vwI hy, szl hz, e1, k _ H F (Grow.refl sub) (.str _)⟩)
      · cases e
    | _ => cases e
  | _ => cases e

/-! ### built-in functions -/
def gLen : List D → Option D
  | [.list l] => some (.int l.length)
  | [.tuple l] => some (.int l.length)
  | [.str z] => if z.length ≤ 16777216 then some (.int z.length) else none
  | _ => none
theorem vwAll1 {F H : Hp} {vs : List V} {x : D} (h : VwAll K mg F H vs [x]) : ∃ v, vs = [v] ∧ Vw K mg F H v x := by
  cases h with
  | cons a r => cases r; exact ⟨_, rfl, a⟩
theorem vwAll2 {F H : Hp} {vs : List V} {x y : D} (h : VwAll K mg F H vs [x, y]) : ∃ v w, vs = [v, w] ∧ Vw K mg F H v x ∧ Vw K mg F H w y := by
  cases h with
  | cons a r => cases r with
    | cons b r => cases r; exact ⟨_, _, rfl, a, b⟩
theorem oA_len : OpA K mg (fun xs H Q => ∃ x n, xs = [x] ∧ LenV K x H n ∧ Q (.int n) H) gLen := by
  intro F H vs xs z Q sub h e k
  match xs, e with
  | [.list l], e =>
    cases e
    obtain ⟨v, rfl, a, ws, rfl, h1, h2⟩ := vwAll1 h
    exact ⟨_, _, rfl, .inl ⟨ws, .inl (.inl h1), rfl⟩, by rw [h2.len]; exact k _ H F (Grow.refl sub) (.int _)⟩
  | [.tuple l], e =>
    cases e
    obtain ⟨v, rfl, a, ws, rfl, h1, h2⟩ := vwAll1 h
    exact ⟨_, _, rfl, .inr ⟨ws, same_sqT sub h1, rfl⟩, by rw [h2.len]; exact k _ H F (Grow.refl sub) (.int _)⟩
  | [.str s], e =>
    simp only [gLen] at e
    split at e
    · rename_i hz
      cases e
      obtain ⟨v, rfl, h1⟩ := vwAll1 h
      rw [vwS h1]
      exact ⟨_, _, rfl, ⟨szl hz, rfl⟩, k _ H F (Grow.refl sub) (.int _)⟩
    · cases e
def gAbs : List D → Option D
  | [.int i] => some (.int (if i < 0 then -i else i))
  | _ => none
theorem oA_abs : OpA K mg (fun xs H Q => ∃ i, xs = [.int i] ∧ Q (.int (if i < 0 then -i else i)) H) gAbs := by
  intro F H vs xs z Q sub h e k
  match xs, e with
  | [.int i], e =>
    cases e
    obtain ⟨v, rfl, h1⟩ := vwAll1 h
    rw [vwI h1]
    exact ⟨i, rfl, k _ H F (Grow.refl sub) (.int _)⟩
def gInt : List D → Option D
  | [.int i] => some (.int i)
  | [.bool b] => some (.int (if b then 1 else 0))
  | _ => none
theorem oA_int : OpA K mg (fun xs H Q => (∃ i, xs = [.int i] ∧ Q (.int i) H) ∨ ∃ k, xs = [.bl k] ∧ Q (.int (if k then 1 else 0)) H) gInt := by
  intro F H vs xs z Q sub h e k
  match xs, e with
  | [.int i], e =>
    cases e
    obtain ⟨v, rfl, h1⟩ := vwAll1 h
    rw [vwI h1]
    exact .inl ⟨i, rfl, k _ H F (Grow.refl sub) (.int _)⟩
  | [.bool i], e =>
    cases e
    obtain ⟨v, rfl, h1⟩ := vwAll1 h
    rw [vwB h1]
    exact .inr ⟨i, rfl, k _ H F (Grow.refl sub) (.int _)⟩
def gMax2 : List D → Option D
  | [.int i, .int j] => some (.int (if j > i then j else i))
  | _ => none
def gMin2 : List D → Option D
  | [.int i, .int j] => some (.int (if j < i then j else i))
  | _ => none
theorem oA_max2 : OpA K mg (fun xs H Q => ∃ i j, xs = [.int i, .int j] ∧ Q (.int (if j > i then j else i)) H) gMax2 := by
  intro F H vs xs z Q sub h e k
  match xs, e with
  | [.int i, .int j], e =>
    cases e
    obtain ⟨v, w, rfl, h1, h2⟩ := vwAll2 h
    rw [vwI h1, vwI h2]
    exact ⟨i, j, rfl, k _ H F (Grow.refl sub) (.int _)⟩
theorem oA_min2 : OpA K mg (fun xs H Q => ∃ i j, xs = [.int i, .int j] ∧ Q (.int (if j < i then j else i)) H) gMin2 := by
  intro F H vs xs z Q sub h e k
  match xs, e with
  | [.int i, .int j], e =>
    cases e
    obtain ⟨v, w, rfl, h1, h2⟩ := vwAll2 h
    rw [vwI h1, vwI h2]
    exact ⟨i, j, rfl, k _ H F (Grow.refl sub) (.int _)⟩
def gTuple : List D → Option D
  | [.list l] => some (.tuple l)
  | [.tuple l] => some (.tuple l)
  | _ => none
theorem oA_tuple : OpA K mg (fun xs H Q => ∃ p ys, xs = [.ref p] ∧ ((SqL K H p ys ∧ ∀ l, H l = none → Q (.ref l) (upd H l (.tup ys))) ∨ (SqT K H p ys ∧ Q (.ref p) H))) gTuple := by
  intro F H vs xs z Q sub h e k
  match xs, e with
  | [.list l], e =>
    cases e
    obtain ⟨v, rfl, a, ws, rfl, h1, h2⟩ := vwAll1 h
    refine ⟨a, ws, rfl, .inl ⟨.inl (.inl h1), fun p n => ?_⟩⟩
    obtain ⟨g, f⟩ := fzNewT sub n h2
    exact k _ _ _ g f
  | [.tuple l], e =>
    cases e
    obtain ⟨v, rfl, a, ws, rfl, h1, h2⟩ := vwAll1 h
    exact ⟨a, ws, rfl, .inr ⟨same_sqT sub h1, k _ H F (Grow.refl sub) (.tup h1 h2)⟩⟩
def gList : List D → Option D
  | [.list l] => some (.list l)
  | [.tuple l] => some (.list l)
  | _ => none
theorem oA_list : OpA K mg (fun xs H Q => ∃ p ys, xs = [.ref p] ∧ (SqL K H p ys ∨ SqT K H p ys) ∧ ∀ l, H l = none → Q (.ref l) (upd H l (.lst ys))) gList := by
  intro F H vs xs z Q sub h e k
  match xs, e with
  | [.list l], e =>
    cases e
    obtain ⟨v, rfl, a, ws, rfl, h1, h2⟩ := vwAll1 h
    refine ⟨a, ws, rfl, .inl (.inl (.inl h1)), fun p n => ?_⟩
    obtain ⟨g, f⟩ := fzNewL sub n h2
    exact k _ _ _ g f
  | [.tuple l], e =>
    cases e
    obtain ⟨v, rfl, a, ws, rfl, h1, h2⟩ := vwAll1 h
    refine ⟨a, ws, rfl, .inr (same_sqT sub h1), fun p n => ?_⟩
    obtain ⟨g, f⟩ := fzNewL sub n h2
    exact k _ _ _ g f
end
end Dl

/-! DlD: truth, tests, and / or / not, chains, conditional expressions, displays, slices, isinstance. -/
namespace Dl
open PySem L2

def tru : D → Option Bool
  | .none => some false
  | .bool b => some b
  | .int i => some (i != 0)
  | .str z => if z.length ≤ 16777216 then some ((z.length : Int) != 0) else none
  | .list l => some (!l.isEmpty)
  | .tuple l => some (!l.isEmpty)
  | .dict _ => none
/-- a test by a value's truth -/
def truE (f : Ex) : Ex := fun δ => (f δ).bind fun r δ1 => match toD r δ1 with
  | some x => (match tru x with
    | some b => .ok (.d (.bool b)) δ1
    | none => .bad)
  | none => .bad
def andT (f g : Ex) : Ex := fun δ => (f δ).bind fun r δ1 => match r with
  | .d (.bool true) => g δ1
  | .d (.bool false) => .ok (.d (.bool false)) δ1
  | _ => .bad
def orT (f g : Ex) : Ex := fun δ => (f δ).bind fun r δ1 => match r with
  | .d (.bool true) => .ok (.d (.bool true)) δ1
  | .d (.bool false) => g δ1
  | _ => .bad
def notT (f : Ex) : Ex := fun δ => (f δ).bind fun r δ1 => match r with
  | .d (.bool b) => .ok (.d (.bool (!b))) δ1
  | _ => .bad
def ifE (c f g : Ex) : Ex := fun δ => (c δ).bind fun r δ1 => match r with
  | .d (.bool true) => f δ1
  | .d (.bool false) => g δ1
  | _ => .bad
def andV (f g : Ex) : Ex := fun δ => (f δ).bind fun r δ1 => match (toD r δ1).bind tru with
  | some true => g δ1
  | some false => .ok r δ1
  | none => .bad
def orV (f g : Ex) : Ex := fun δ => (f δ).bind fun r δ1 => match (toD r δ1).bind tru with
  | some true => .ok r δ1
  | some false => g δ1
  | none => .bad
def notV (f : Ex) : Ex := notT (truE f)
def chn : List ((D → D → Option D) × Ex) → Rs → Env → Re
  | [], _, _ => .bad
  | [(g, f)], r, δ => (f δ).bind fun r2 δ2 => match toD r δ2, toD r2 δ2 with
    | some x, some y => ofO (g x y) δ2
    | _, _ => .bad
  | (g, f) :: p :: q, r, δ => (f δ).bind fun r2 δ2 => match toD r δ2, toD r2 δ2 with
    | some x, some y => (match g x y with
      | some (.bool true) => chn (p :: q) r2 δ2
      | some (.bool false) => .ok (.d (.bool false)) δ2
      | _ => .bad)
    | _, _ => .bad
def chainE (f : Ex) (l : List ((D → D → Option D) × Ex)) : Ex := fun δ => (f δ).bind (chn l)
/-- several values frozen, one behind the other -/
def frzs : List Rs → Env → Option (List D × Env)
  | [], δ => some ([], δ)
  | r :: rs, δ => match frz r δ with
    | some (x, δ1) => (match frzs rs δ1 with
      | some (xs, δ2) => some (x :: xs, δ2)
      | none => none)
    | none => none
def tupE (fs : List Ex) : Ex := fun δ => (evA fs δ).bind fun rs δ1 => match frzs rs δ1 with
  | some (xs, δ2) => .ok (.d (.tuple xs)) δ2
  | none => .bad
def lstE (fs : List Ex) : Ex := fun δ => (evA fs δ).bind fun rs δ1 => match frzs rs δ1 with
  | some (xs, δ2) => .ok (.d (.list xs)) δ2
  | none => .bad
def isT (T : String) : D → Option D
  | .none => some (.bool false)
  | .bool _ => some (.bool (T == "bool" || T == "int"))
  | .int _ => some (.bool (T == "int"))
  | .str _ => some (.bool (T == "str"))
  | .list _ => some (.bool (T == "list"))
  | .tuple _ => some (.bool (T == "tuple"))
  | .dict _ => none
/-- a slice's part -/
def partE : Option Ex → Env → Option (Option Int × Env) ⊕ (Str × D × Env)
  | none, δ => .inl (some (none, δ))
  | some f, δ => match f δ with
    | .ok (.d (.int i)) δ1 => .inl (some (some i, δ1))
    | .ok _ _ => .inl none
    | .ex c a δ1 => .inr (c, a, δ1)
    | .bad => .inl none
def cutD (l : List D) (lo hi : Option Int) : List D := (l.drop (HT.sIx l.length 0 lo)).take (HT.sIx l.length l.length hi - HT.sIx l.length 0 lo)
def gSl (x : D) (lo hi : Option Int) : Option D := match x with
  | .list l => some (.list (cutD l lo hi))
  | .tuple l => some (.tuple (cutD l lo hi))
  | .str z => if z.length ≤ 16777216 then some (.str (cutS z lo hi)) else none
  | _ => none
def slE (f : Ex) (lo hi : Option Ex) : Ex := fun δ => (f δ).bind fun r δ1 => match partE lo δ1 with
  | .inr (c, a, δ2) => .ex c a δ2
  | .inl none => .bad
  | .inl (some (i, δ2)) => (match partE hi δ2 with
    | .inr (c, a, δ3) => .ex c a δ3
    | .inl none => .bad
    | .inl (some (j, δ3)) => (match toD r δ3 with
      | some x => ofO (gSl x i j) δ3
      | none => .bad))

section
variable {K : PySem.W.Frag} {mg : Str → Option Value} {W : WX} {ta tb : TE} {fa fb : Ex}
theorem mn_test (h : MnE K mg W ta fa) : MnT K mg W (tTest ta) fa where
  ok := fun σ H F L δ P b δ' Q R e k => h.ok σ H F L δ P _ _ _ R e fun v H' F' P' po R' rs => by
    cases (show Fz K mg F' v (.bool b) from rs)
    exact ⟨b, rfl, k H' F' P' po R'⟩
  ex := fun σ H F L δ P c a δ' Q R e k => h.ex σ H F L δ P _ _ _ _ R e k
theorem tru_vw {F H : Hp} {v : V} {x : D} {b : Bool} (sub : Same F H) (h : Vw K mg F H v x) (e : tru x = some b) : TruV K v H b := by
  cases x with
  | none => rw [vwN h]; cases e; exact rfl
  | bool b => rw [vwB h]; cases e; exact rfl
  | int b => rw [vwI h]; cases e; exact rfl
  | str b =>
    rw [vwS h]
    simp only [tru] at e
    split at e
    · rename_i hz; cases e; exact ⟨szl hz, rfl⟩
    · cases e
  | list l =>
    obtain ⟨a, vs, rfl, h1, h2⟩ := h
    cases e
    refine .inl ⟨vs, .inl (.inl h1), ?_⟩
    have := h2.len
    cases l <;> cases vs <;> simp_all
  | tuple l =>
    obtain ⟨a, vs, rfl, h1, h2⟩ := h
    cases e
    refine .inr (.inl ⟨vs, same_sqT sub h1, ?_⟩)
    have := h2.len
    cases l <;> cases vs <;> simp_all
  | dict l => cases e
theorem mn_truth (h : MnE K mg W ta fa) : MnT K mg W (fun σ H Q => ta σ H fun x H' => ∃ k, TruV K x H' k ∧ Q k H') (truE fa) where
  ok := fun σ H F L δ P b δ' Q R e k => by
    simp only [truE] at e
    cases q : fa δ with
    | ok r1 δ1 =>
      rw [q] at e
      simp only [Re.bind] at e
      cases q1 : toD r1 δ1 with
      | none => rw [q1] at e; cases e
      | some x =>
        rw [q1] at e
        simp only at e
        cases q2 : tru x with
        | none => rw [q2] at e; cases e
        | some b' =>
          rw [q2] at e
          cases e
          exact h.ok σ H F L δ P _ _ _ R q fun v H' F' P' po R' rs => ⟨_, tru_vw R'.sub (R'.view rs q1) q2, k H' F' P' po R'⟩
    | ex c a δ1 => rw [q] at e; cases e
    | bad => rw [q] at e; cases e
  ex := fun σ H F L δ P c a δ' Q R e k => by
    simp only [truE] at e
    cases q : fa δ with
    | ok r1 δ1 =>
      rw [q] at e
      simp only [Re.bind] at e
      split at e
      · split at e <;> cases e
      · cases e
    | ex c1 a1 δ1 => rw [q] at e; cases e; exact h.ex σ H F L δ P _ _ _ _ R q k
    | bad => rw [q] at e; cases e
/-- a test, then a test -/
theorem MnT.then_ {ta : TT} (ha : MnT K mg W ta fa) {g : Rs → Env → Re} {T : St → Bool → Hp → (Bool → Hp → Prop) → Prop} (hg : ∀ r δ, (∀ b, r ≠ .d (.bool b)) → g r δ = .bad)
    (ok : ∀ σ H F L δ P b r δ' (Q : Bool → Hp → Prop), Rep K mg F H L σ δ P → g (.d (.bool b)) δ = .ok (.d (.bool r)) δ' →
      (∀ H' F' P', Post F H (Wr L P) F' H' (Wr L P') → Rep K mg F' H' L σ δ' P' → Q r H') → T σ b H Q)
    (ex : ∀ σ H F L δ P b c a δ' (Q : Bool → Hp → Prop), Rep K mg F H L σ δ P → g (.d (.bool b)) δ = .ex c a δ' →
      (∀ cls d H' F' P', Post F H (Wr L P) F' H' (Wr L P') → Rep K mg F' H' L σ δ' P' → ExcIs K mg F' c a cls d → W cls d σ H') → T σ b H Q) :
    MnT K mg W (fun σ H Q => ta σ H fun x H1 => T σ x H1 Q) (fun δ => (fa δ).bind g) where
  ok := fun σ H F L δ P r δ' Q R e k => by
    cases q : fa δ with
    | ok r1 δ1 =>
      rw [q] at e
      simp only [Re.bind] at e
      by_cases hb : ∃ b, r1 = .d (.bool b)
      · obtain ⟨b, rfl⟩ := hb
        exact ha.ok σ H F L δ P b δ1 _ R q fun H' F' P' po R' => ok σ H' F' L δ1 P' b r δ' Q R' e fun H2 F2 P2 po2 R2 => k H2 F2 P2 (po.trans po2) R2
      · rw [hg r1 δ1 fun b z => hb ⟨b, z⟩] at e; cases e
    | ex c a δ1 => rw [q] at e; cases e
    | bad => rw [q] at e; cases e
  ex := fun σ H F L δ P c a δ' Q R e k => by
    cases q : fa δ with
    | ok r1 δ1 =>
      rw [q] at e
      simp only [Re.bind] at e
      by_cases hb : ∃ b, r1 = .d (.bool b)
      · obtain ⟨b, rfl⟩ := hb
        exact ha.ok σ H F L δ P b δ1 _ R q fun H' F' P' po R' => ex σ H' F' L δ1 P' b c a δ' Q R' e fun cls d H2 F2 P2 po2 R2 x => k cls d H2 F2 P2 (po.trans po2) R2 x
      · rw [hg r1 δ1 fun b z => hb ⟨b, z⟩] at e; cases e
    | ex c1 a1 δ1 => rw [q] at e; cases e; exact ha.ex σ H F L δ P _ _ _ _ R q k
    | bad => rw [q] at e; cases e
theorem rs_bool {g : Bool → Env → Re} {r : Rs} {δ : Env} (h : ∀ b, r ≠ .d (.bool b)) : (match r with | .d (.bool true) => g true δ | .d (.bool false) => g false δ | _ => Re.bad) = .bad := by
  split
  · exact absurd rfl (h true)
  · exact absurd rfl (h false)
  · rfl
theorem mn_and {ta tb : TT} (ha : MnT K mg W ta fa) (hb : MnT K mg W tb fb) : MnT K mg W (tAnd ta tb) (andT fa fb) := by
  refine ha.then_ (T := fun σ c H1 Q => if c = true then tb σ H1 Q else Q false H1) (fun r δ h => ?_) (fun σ H F L δ P b r δ' Q R e k => ?_) (fun σ H F L δ P b c a δ' Q R e k => ?_)
  · split
    · exact absurd rfl (h true)
    · exact absurd rfl (h false)
    · rfl
  · cases b with
    | true => rw [if_pos rfl]; exact hb.ok σ H F L δ P r δ' Q R e k
    | false => rw [if_neg Bool.false_ne_true]; cases e; exact k H F P Post.refl R
  · cases b with
    | true => rw [if_pos rfl]; exact hb.ex σ H F L δ P c a δ' Q R e k
    | false => cases e
theorem mn_or {ta tb : TT} (ha : MnT K mg W ta fa) (hb : MnT K mg W tb fb) : MnT K mg W (tOr ta tb) (orT fa fb) := by
  refine ha.then_ (T := fun σ c H1 Q => if c = true then Q true H1 else tb σ H1 Q) (fun r δ h => ?_) (fun σ H F L δ P b r δ' Q R e k => ?_) (fun σ H F L δ P b c a δ' Q R e k => ?_)
  · split
    · exact absurd rfl (h true)
    · exact absurd rfl (h false)
    · rfl
  · cases b with
    | false => rw [if_neg Bool.false_ne_true]; exact hb.ok σ H F L δ P r δ' Q R e k
    | true => rw [if_pos rfl]; cases e; exact k H F P Post.refl R
  · cases b with
    | false => rw [if_neg Bool.false_ne_true]; exact hb.ex σ H F L δ P c a δ' Q R e k
    | true => cases e
theorem mn_not {ta : TT} (ha : MnT K mg W ta fa) : MnT K mg W (tNot ta) (notT fa) := by
  refine ha.then_ (T := fun σ c H1 Q => Q (!c) H1) (fun r δ h => ?_) (fun σ H F L δ P b r δ' Q R e k => ?_) (fun σ H F L δ P b c a δ' Q R e k => ?_)
  · split
    · rename_i b; exact absurd rfl (h b)
    · rfl
  · cases e; exact k H F P Post.refl R
  · cases e
theorem mn_if {tc : TT} {c : Ex} (hc : MnT K mg W tc c) (ha : MnE K mg W ta fa) (hb : MnE K mg W tb fb) : MnE K mg W (tIf tc ta tb) (ifE c fa fb) where
  ok := fun σ H F L δ P r δ' Q R e k => by
    simp only [ifE] at e
    cases q : c δ with
    | ok r1 δ1 =>
      rw [q] at e
      simp only [Re.bind] at e
      split at e
      · exact hc.ok σ H F L δ P true δ1 _ R q fun H' F' P' po R' => by
          rw [if_pos rfl]
          exact ha.ok σ H' F' L δ1 P' r δ' Q R' e fun v H2 F2 P2 po2 R2 rs => k v H2 F2 P2 (po.trans po2) R2 rs
      · exact hc.ok σ H F L δ P false δ1 _ R q fun H' F' P' po R' => by
          rw [if_neg Bool.false_ne_true]
          exact hb.ok σ H' F' L δ1 P' r δ' Q R' e fun v H2 F2 P2 po2 R2 rs => k v H2 F2 P2 (po.trans po2) R2 rs
      · cases e
    | ex c a δ1 => rw [q] at e; cases e
    | bad => rw [q] at e; cases e
  ex := fun σ H F L δ P c1 a δ' Q R e k => by
    simp only [ifE] at e
    cases q : c δ with
    | ok r1 δ1 =>
      rw [q] at e
      simp only [Re.bind] at e
      split at e
      · exact hc.ok σ H F L δ P true δ1 _ R q fun H' F' P' po R' => by
          rw [if_pos rfl]
          exact ha.ex σ H' F' L δ1 P' _ _ _ Q R' e fun cls d H2 F2 P2 po2 R2 x => k cls d H2 F2 P2 (po.trans po2) R2 x
      · exact hc.ok σ H F L δ P false δ1 _ R q fun H' F' P' po R' => by
          rw [if_neg Bool.false_ne_true]
          exact hb.ex σ H' F' L δ1 P' _ _ _ Q R' e fun cls d H2 F2 P2 po2 R2 x => k cls d H2 F2 P2 (po.trans po2) R2 x
      · cases e
    | ex c a δ1 => rw [q] at e; cases e; exact hc.ex σ H F L δ P _ _ _ _ R q k
    | bad => rw [q] at e; cases e
theorem toD_tru {r : Rs} {δ : Env} {b : Bool} (e : (toD r δ).bind tru = some b) : ∃ x, toD r δ = some x ∧ tru x = some b := Option.bind_eq_some_iff.mp e
theorem mn_andV (ha : MnE K mg W ta fa) (hb : MnE K mg W tb fb) : MnE K mg W (tAndT K ta tb) (andV fa fb) := by
  refine ha.then_ (T := fun σ x H1 Q => ∃ k, TruV K x H1 k ∧ if k = true then tb σ H1 Q else Q x H1) (fun σ H F L δ P ra v r δ' Q R rs e k => ?_) (fun σ H F L δ P ra v c a δ' Q R rs e k => ?_)
  · split at e
    · rename_i h
      obtain ⟨x, h1, h2⟩ := toD_tru h
      exact ⟨true, tru_vw R.sub (R.view rs h1) h2, by rw [if_pos rfl]; exact hb.ok σ H F L δ P r δ' Q R e k⟩
    · rename_i h
      obtain ⟨x, h1, h2⟩ := toD_tru h
      cases e
      exact ⟨false, tru_vw R.sub (R.view rs h1) h2, by rw [if_neg Bool.false_ne_true]; exact k v H F P Post.refl R rs⟩
    · cases e
  · split at e
    · rename_i h
      obtain ⟨x, h1, h2⟩ := toD_tru h
      exact ⟨true, tru_vw R.sub (R.view rs h1) h2, by rw [if_pos rfl]; exact hb.ex σ H F L δ P _ _ _ Q R e k⟩
    · cases e
    · cases e
theorem mn_orV (ha : MnE K mg W ta fa) (hb : MnE K mg W tb fb) : MnE K mg W (tOrT K ta tb) (orV fa fb) := by
  refine ha.then_ (T := fun σ x H1 Q => ∃ k, TruV K x H1 k ∧ if k = true then Q x H1 else tb σ H1 Q) (fun σ H F L δ P ra v r δ' Q R rs e k => ?_) (fun σ H F L δ P ra v c a δ' Q R rs e k => ?_)
  · split at e
    · rename_i h
      obtain ⟨x, h1, h2⟩ := toD_tru h
      cases e
      exact ⟨true, tru_vw R.sub (R.view rs h1) h2, by rw [if_pos rfl]; exact k v H F P Post.refl R rs⟩
    · rename_i h
      obtain ⟨x, h1, h2⟩ := toD_tru h
      exact ⟨false, tru_vw R.sub (R.view rs h1) h2, by rw [if_neg Bool.false_ne_true]; exact hb.ok σ H F L δ P r δ' Q R e k⟩
    · cases e
  · split at e
    · cases e
    · rename_i h
      obtain ⟨x, h1, h2⟩ := toD_tru h
      exact ⟨false, tru_vw R.sub (R.view rs h1) h2, by rw [if_neg Bool.false_ne_true]; exact hb.ex σ H F L δ P _ _ _ Q R e k⟩
    · cases e
theorem mn_notV (ha : MnE K mg W ta fa) : MnE K mg W (tNotT K ta) (notV fa) where
  ok := fun σ H F L δ P r δ' Q R e k => by
    have h := (mn_truth ha)
    simp only [notV, notT] at e
    cases q : truE fa δ with
    | ok r1 δ1 =>
      rw [q] at e
      simp only [Re.bind] at e
      split at e
      · rename_i b
        cases e
        exact h.ok σ H F L δ P b _ (fun b H' => Q (.bl (!b)) H') R q fun H' F' P' po R' => k _ H' F' P' po R' (.bl _)
      · cases e
    | ex c a δ1 => rw [q] at e; cases e
    | bad => rw [q] at e; cases e
  ex := fun σ H F L δ P c a δ' Q R e k => by
    have h := (mn_truth ha)
    simp only [notV, notT] at e
    cases q : truE fa δ with
    | ok r1 δ1 =>
      rw [q] at e
      simp only [Re.bind] at e
      split at e <;> cases e
    | ex c1 a1 δ1 => rw [q] at e; cases e; exact h.ex σ H F L δ P _ _ _ (fun b H' => Q (.bl (!b)) H') R q k
    | bad => rw [q] at e; cases e
end

/-! ### chains of comparisons -/
abbrev TC := V → TE
structure PCh (X : Cx) (ops : List CmpOp) (es : List Expr) (t : TC) : Prop where
  ne : ∃ o p e r, ops = o :: p ∧ es = e :: r
  val : ∀ (pos : Pos) (pins : List (Addr × Obj)) (s : Shared) (σ : St) (H : Hp) (x : V) (v : Value) (Q : VK), Inv X pins σ H s → RelV x v → t x σ H Q →
    wpAny (model X.prog X.w) X.A (compareChain pos v ops (evalEach es X.env)) (EP X pins σ Q) X.xe s
  tst : ∀ (pos : Pos) (pins : List (Addr × Obj)) (s : Shared) (σ : St) (H : Hp) (x : V) (v : Value) (Q : Bool → Hp → Prop), Inv X pins σ H s → RelV x v → t x σ H (fun z H' => ∃ k, z = .bl k ∧ Q k H') →
    wpAny (model X.prog X.w) X.A (testChain pos v ops (evalEach es X.env)) (TP X pins σ Q) X.xe s
def tOne (r : R2) (tb : TE) : TC := fun x σ H Q => tb σ H fun y H2 => r x y H2 Q
def tLink (r : R2) (tb : TE) (t : TC) : TC := fun x σ H Q => tb σ H fun y H2 => r x y H2 fun z H3 => ∃ k, z = .bl k ∧ if k = true then t y σ H3 Q else Q (.bl false) H3
section
variable {X : Cx} {a b : Expr} {op : CmpOp} {ops : List CmpOp} {es : List Expr} {r : R2} {ta tb : TE} {t : TC} {pos : Pos}
open PyProof.Rows in
theorem pch_one (ho : OpR X (compareOp op) r) (hb : PE X b tb) : PCh X [op] [b] (tOne r tb) where
  ne := ⟨_, _, _, _, rfl, rfl⟩
  val := fun pos pins s σ H x v Q I rx h => chain_last (thn (hb.run pins s σ H _ I h) fun u s2 ⟨y, H2, I2, r2, q2⟩ => ho pins s2 σ H2 x y v u Q I2 rx r2 q2)
  tst := fun pos pins s σ H x v Q I rx h => test_last (thn (hb.run pins s σ H _ I h) fun u s2 ⟨y, H2, I2, r2, q2⟩ => thn (ho pins s2 σ H2 x y v u _ I2 rx r2 q2) fun d s3 ⟨z, H3, I3, r3, k, e, q3⟩ => by
    subst e
    cases r3
    exact wpAny_truthy_bool ⟨H3, I3, q3⟩)
open PyProof.Rows in
theorem pch_link (ho : OpR X (compareOp op) r) (hb : PE X b tb) (hr : PCh X ops es t) : PCh X (op :: ops) (b :: es) (tLink r tb t) where
  ne := ⟨_, _, _, _, rfl, rfl⟩
  val := fun pos pins s σ H x v Q I rx h => by
    obtain ⟨o, p, e, l, rfl, rfl⟩ := hr.ne
    refine chain_link (thn (hb.run pins s σ H _ I h) fun u s2 ⟨y, H2, I2, r2, q2⟩ => thn (ho pins s2 σ H2 x y v u _ I2 rx r2 q2) fun d s3 ⟨z, H3, I3, r3, k, e, q3⟩ => ?_)
    subst e
    cases r3
    refine wpAny_truthy_bool ?_
    cases k with
    | false => exact ite_ff ⟨.bl false, H3, I3, rfl, q3⟩
    | true => exact ite_tt (hr.val pos pins s3 σ H3 y u Q I3 r2 q3)
  tst := fun pos pins s σ H x v Q I rx h => by
    obtain ⟨o, p, e, l, rfl, rfl⟩ := hr.ne
    refine test_link (thn (hb.run pins s σ H _ I h) fun u s2 ⟨y, H2, I2, r2, q2⟩ => thn (ho pins s2 σ H2 x y v u _ I2 rx r2 q2) fun d s3 ⟨z, H3, I3, r3, k, e, q3⟩ => ?_)
    subst e
    cases r3
    refine wpAny_truthy_bool ?_
    cases k with
    | false =>
      obtain ⟨k', e', q'⟩ := q3
      cases e'
      exact ite_ff ⟨H3, I3, q'⟩
    | true => exact ite_tt (hr.tst pos pins s3 σ H3 y u Q I3 r2 q3)
def tChn (ta : TE) (t : TC) : TE := fun σ H Q => ta σ H fun x H1 => t x σ H1 Q
open PyProof.Rows in
theorem pe_chn {o1 o2 : CmpOp} {e1 e2 : Expr} (ha : PE X a ta) (hr : PCh X (o1 :: o2 :: ops) (e1 :: e2 :: es) t) (hm : lastMarks (o1 :: o2 :: ops) (e1 :: e2 :: es) = false := by with_unfolding_all rfl) :
    PE X (.Compare a (o1 :: o2 :: ops) (e1 :: e2 :: es) pos) (tChn ta t) := ⟨fun pins s σ H Q I h =>
  Compare_chain (thn (ha.run pins s σ H _ I h) fun v s1 ⟨x, H1, I1, r1, q1⟩ => hr.val pos pins s1 σ H1 x v Q I1 r1 q1) hm⟩
open PyProof.Rows in
theorem pt_chn {o1 o2 : CmpOp} {e1 e2 : Expr} (ha : PE X a ta) (hr : PCh X (o1 :: o2 :: ops) (e1 :: e2 :: es) t) (hm : lastMarks (o1 :: o2 :: ops) (e1 :: e2 :: es) = false := by with_unfolding_all rfl) :
    PT X (.Compare a (o1 :: o2 :: ops) (e1 :: e2 :: es) pos) (tTest (tChn ta t)) := ⟨fun pins s σ H Q I h =>
  isTrue_chain (thn (ha.run pins s σ H _ I h) fun v s1 ⟨x, H1, I1, r1, q1⟩ => hr.tst pos pins s1 σ H1 x v Q I1 r1 q1) hm⟩
end
section
variable {K : PySem.W.Frag} {mg : Str → Option Value} {W : WX} {ta tb : TE} {fa fb : Ex} {t : TC} {l : List ((D → D → Option D) × Ex)} {g : D → D → Option D} {r : R2}
structure MnC (K : PySem.W.Frag) (mg : Str → Option Value) (W : WX) (t : TC) (l : List ((D → D → Option D) × Ex)) : Prop where
  ok : ∀ σ H F L δ P r0 v0 r δ' (Q : VK), Rep K mg F H L σ δ P → RsOk K mg F σ v0 r0 → chn l r0 δ = .ok r δ' →
    (∀ v H' F' P', Post F H (Wr L P) F' H' (Wr L P') → Rep K mg F' H' L σ δ' P' → RsOk K mg F' σ v r → Q v H') → t v0 σ H Q
  ex : ∀ σ H F L δ P r0 v0 c a δ' (Q : VK), Rep K mg F H L σ δ P → RsOk K mg F σ v0 r0 → chn l r0 δ = .ex c a δ' →
    (∀ cls d H' F' P', Post F H (Wr L P) F' H' (Wr L P') → Rep K mg F' H' L σ δ' P' → ExcIs K mg F' c a cls d → W cls d σ H') → t v0 σ H Q
theorem mnc_one (ho : Op2 K mg r g) (hb : MnE K mg W tb fb) : MnC K mg W (tOne r tb) [(g, fb)] where
  ok := fun σ H F L δ P r0 v0 rr δ' Q R rs e k => by
    simp only [chn] at e
    cases q : fb δ with
    | ok r2 δ2 =>
      rw [q] at e
      simp only [Re.bind] at e
      cases d1 : toD r0 δ2 with
      | none => rw [d1] at e; cases e
      | some x =>
        cases d2 : toD r2 δ2 with
        | none => rw [d1, d2] at e; cases e
        | some y =>
          rw [d1, d2] at e
          obtain ⟨z, e1, rfl, rfl⟩ := ofO_ok e
          refine hb.ok σ H F L δ P r2 _ _ R q fun w H2 F2 P2 po2 R2 rs2 => ?_
          exact ho F2 H2 v0 w x y z Q R2.sub (R2.view (rs.mono po2.mono) d1) (R2.view rs2 d2) e1 fun v' H' F' gr hz => k v' H' F' P2 (po2.trans gr.post) (R2.grow gr) hz
    | ex c a δ2 => rw [q] at e; cases e
    | bad => rw [q] at e; cases e
  ex := fun σ H F L δ P r0 v0 c a δ' Q R rs e k => by
    simp only [chn] at e
    cases q : fb δ with
    | ok r2 δ2 =>
      rw [q] at e
      simp only [Re.bind] at e
      split at e
      · exact (ofO_ex e).elim
      · cases e
    | ex c a δ2 => rw [q] at e; cases e; exact hb.ex σ H F L δ P _ _ _ _ R q k
    | bad => rw [q] at e; cases e
theorem mnc_link {p : (D → D → Option D) × Ex} (ho : Op2 K mg r g) (hb : MnE K mg W tb fb) (hr : MnC K mg W t (p :: l)) : MnC K mg W (tLink r tb t) ((g, fb) :: p :: l) where
  ok := fun σ H F L δ P r0 v0 rr δ' Q R rs e k => by
    simp only [chn] at e
    cases q : fb δ with
    | ok r2 δ2 =>
      rw [q] at e
      simp only [Re.bind] at e
      cases d1 : toD r0 δ2 with
      | none => rw [d1] at e; cases e
      | some x =>
        cases d2 : toD r2 δ2 with
        | none => rw [d1, d2] at e; cases e
        | some y =>
          rw [d1, d2] at e
          simp only at e
          refine hb.ok σ H F L δ P r2 _ _ R q fun w H2 F2 P2 po2 R2 rs2 => ?_
          split at e
          · rename_i e1
            refine ho F2 H2 v0 w x y _ _ R2.sub (R2.view (rs.mono po2.mono) d1) (R2.view rs2 d2) e1 fun v' H' F' gr hz => ?_
            cases hz
            refine ⟨true, rfl, ?_⟩
            rw [if_pos rfl]
            exact hr.ok σ H' F' L δ2 P2 r2 w rr δ' Q (R2.grow gr) (rs2.mono gr.mono) e fun v H3 F3 P3 po3 R3 rs3 => k v H3 F3 P3 ((po2.trans gr.post).trans po3) R3 rs3
          · rename_i e1
            refine ho F2 H2 v0 w x y _ _ R2.sub (R2.view (rs.mono po2.mono) d1) (R2.view rs2 d2) e1 fun v' H' F' gr hz => ?_
            cases hz
            refine ⟨false, rfl, ?_⟩
            rw [if_neg Bool.false_ne_true]
            cases e
            exact k _ H' F' P2 (po2.trans gr.post) (R2.grow gr) (.bl false)
          · cases e
    | ex c a δ2 => rw [q] at e; cases e
    | bad => rw [q] at e; cases e
  ex := fun σ H F L δ P r0 v0 c a δ' Q R rs e k => by
    simp only [chn] at e
    cases q : fb δ with
    | ok r2 δ2 =>
      rw [q] at e
      simp only [Re.bind] at e
      cases d1 : toD r0 δ2 with
      | none => rw [d1] at e; cases e
      | some x =>
        cases d2 : toD r2 δ2 with
        | none => rw [d1, d2] at e; cases e
        | some y =>
          rw [d1, d2] at e
          simp only at e
          refine hb.ok σ H F L δ P r2 _ _ R q fun w H2 F2 P2 po2 R2 rs2 => ?_
          split at e
          · rename_i e1
            refine ho F2 H2 v0 w x y _ _ R2.sub (R2.view (rs.mono po2.mono) d1) (R2.view rs2 d2) e1 fun v' H' F' gr hz => ?_
            cases hz
            refine ⟨true, rfl, ?_⟩
            rw [if_pos rfl]
            exact hr.ex σ H' F' L δ2 P2 r2 w _ _ _ Q (R2.grow gr) (rs2.mono gr.mono) e fun cls d H3 F3 P3 po3 R3 x => k cls d H3 F3 P3 ((po2.trans gr.post).trans po3) R3 x
          · cases e
          · cases e
    | ex c a δ2 => rw [q] at e; cases e; exact hb.ex σ H F L δ P _ _ _ _ R q k
    | bad => rw [q] at e; cases e
theorem mn_chain (ha : MnE K mg W ta fa) (hr : MnC K mg W t l) : MnE K mg W (tChn ta t) (chainE fa l) :=
  ha.then_ (T := fun σ x H1 Q => t x σ H1 Q) (fun σ H F L δ P ra v r δ' Q R rs e k => hr.ok σ H F L δ P ra v r δ' Q R rs e k) (fun σ H F L δ P ra v c a δ' Q R rs e k => hr.ex σ H F L δ P ra v c a δ' Q R rs e k)

/-! ### displays -/
theorem Rep.freezes {L : Addr → Prop} {σ : St} : ∀ {rs : List Rs} {F H : Hp} {δ δ' : Env} {P : Nat → Addr → Prop} {vs : List V} {xs : List D}, Rep K mg F H L σ δ P → RsOks K mg F σ vs rs → frzs rs δ = some (xs, δ') →
    ∃ F' P', Post F H (Wr L P) F' H (Wr L P') ∧ Rep K mg F' H L σ δ' P' ∧ FzAll K mg F' vs xs
  | [], F, H, δ, δ', P, vs, xs, R, h, e => by
    cases e
    cases vs with
    | nil => exact ⟨F, P, Post.refl, R, .nil⟩
    | cons _ _ => exact h.elim
  | r :: rs, F, H, δ, δ', P, vs, xs, R, h, e => by
    simp only [frzs] at e
    cases q1 : frz r δ with
    | none => rw [q1] at e; cases e
    | some p =>
      obtain ⟨x, δ1⟩ := p
      rw [q1] at e
      simp only at e
      cases q2 : frzs rs δ1 with
      | none => rw [q2] at e; cases e
      | some p =>
        obtain ⟨ys, δ2⟩ := p
        rw [q2] at e
        cases e
        cases vs with
        | nil => exact h.elim
        | cons v vs =>
          obtain ⟨F1, P1, po1, R1, f1⟩ := R.freeze h.1 q1
          obtain ⟨F2, P2, po2, R2, f2⟩ := R1.freezes (h.2.mono po1.mono) q2
          exact ⟨F2, P2, po1.trans po2, R2, .cons (f1.mono po2.mono) f2⟩
theorem frzs_len : ∀ {rs : List Rs} {δ δ' : Env} {xs : List D}, frzs rs δ = some (xs, δ') → xs.length = rs.length
  | [], _, _, _, e => by cases e; rfl
  | r :: rs, δ, δ', xs, e => by
    simp only [frzs] at e
    split at e
    · split at e
      · rename_i q
        cases e
        rw [List.length_cons, List.length_cons, frzs_len q]
      · cases e
    · cases e
theorem evA_len : ∀ {fs : List Ex} {δ δ' : Env} {rs : List Rs}, evA fs δ = .ok rs δ' → rs.length = fs.length
  | [], _, _, _, e => by cases e; rfl
  | f :: fs, δ, δ', rs, e => by
    simp only [evA] at e
    split at e
    · split at e
      · rename_i q
        cases e
        rw [List.length_cons, List.length_cons, evA_len q]
      · cases e
      · cases e
    · cases e
    · cases e
end
end Dl

/-! DlE: displays, slices, isinstance; the rules for tests. -/
namespace Dl
open PySem L2
section
variable {K : PySem.W.Frag} {mg : Str → Option Value} {W : WX} {ta tb : TE} {fa fb : Ex} {t : TA} {fs : List Ex}
theorem RsOks.len {F : Hp} {σ : St} : ∀ {vs : List V} {rs : List Rs}, RsOks K mg F σ vs rs → vs.length = rs.length
  | [], [], _ => rfl
  | _ :: _, _ :: _, h => by rw [List.length_cons, List.length_cons, RsOks.len h.2]
  | [], _ :: _, h => h.elim
  | _ :: _, [], h => h.elim
theorem mn_disp {g : List D → D} {o : List V → HO} {tE : TE} (ha : MnA K mg W t (evA fs)) (hl : fs.length ≤ 1000)
    (ht : ∀ σ H (Q : VK), (t σ H fun xs H1 => xs.length ≤ sizeLine ∧ ∀ p, H1 p = none → Q (.ref p) (upd H1 p (o xs))) → tE σ H Q)
    (hf : ∀ (F H : Hp) (p : Addr) (vs : List V) (l : List D), Same F H → H p = none → FzAll K mg F vs l → Fz K mg (upd F p (o vs)) (.ref p) (g l)) :
    MnE K mg W tE (fun δ => (evA fs δ).bind fun rs δ1 => match frzs rs δ1 with | some (xs, δ2) => .ok (.d (g xs)) δ2 | none => .bad) where
  ok := fun σ H F L δ P r δ' Q R e k => by
    cases q : evA fs δ with
    | ok rs δ1 =>
      rw [q] at e
      simp only [ReA.bind] at e
      cases q2 : frzs rs δ1 with
      | none => rw [q2] at e; cases e
      | some p =>
        obtain ⟨xs, δ2⟩ := p
        rw [q2] at e
        cases e
        refine ht σ H Q (ha.ok σ H F L δ P rs δ1 _ R q fun vs H1 F1 P1 po R1 h1 => ⟨?_, fun p n => ?_⟩)
        · rw [h1.len, evA_len q]; exact szl (by omega)
        · obtain ⟨F2, P2, po2, R2, f2⟩ := R1.freezes h1 q2
          have g2 : Grow F2 H1 (upd F2 p (o vs)) (upd H1 p (o vs)) := Grow.upd R2.sub n
          exact k _ _ _ P2 ((po.trans po2).trans g2.post) (R2.grow g2) (hf F2 H1 p vs xs R2.sub n f2)
    | ex c a δ1 => rw [q] at e; cases e
    | bad => rw [q] at e; cases e
  ex := fun σ H F L δ P c a δ' Q R e k => by
    cases q : evA fs δ with
    | ok rs δ1 =>
      rw [q] at e
      simp only [ReA.bind] at e
      split at e <;> cases e
    | ex c a δ1 => rw [q] at e; cases e; exact ht σ H Q (ha.ex σ H F L δ P _ _ _ _ R q k)
    | bad => rw [q] at e; cases e
theorem mn_tup (ha : MnA K mg W t (evA fs)) (hl : fs.length ≤ 1000) : MnE K mg W (tTup t) (tupE fs) :=
  mn_disp ha hl (o := .tup) (fun _ _ _ h => h) fun F H p vs l sub n h => (fzNewT sub n h).2
theorem mn_lst (ha : MnA K mg W t (evA fs)) (hl : fs.length ≤ 1000) : MnE K mg W (tLst t) (lstE fs) :=
  mn_disp ha hl (o := .lst) (fun _ _ _ h => h) fun F H p vs l sub n h => (fzNewL sub n h).2

/-! ### slices -/
def SlOk (K : PySem.W.Frag) (mg : Str → Option Value) (r : V → Option Int → Option Int → Hp → VK → Prop) : Prop :=
  ∀ F H v x lo hi z (Q : VK), Same F H → Vw K mg F H v x → gSl x lo hi = some z → (∀ v' H' F', Grow F H F' H' → Fz K mg F' v' z → Q v' H') → r v lo hi H Q
structure MnO (K : PySem.W.Frag) (mg : Str → Option Value) (W : WX) (t : TO) (f : Option Ex) : Prop where
  ok : ∀ σ H F L δ P i δ' (Q : Option Int → Hp → Prop), Rep K mg F H L σ δ P → partE f δ = .inl (some (i, δ')) →
    (∀ H' F' P', Post F H (Wr L P) F' H' (Wr L P') → Rep K mg F' H' L σ δ' P' → Q i H') → t σ H Q
  ex : ∀ σ H F L δ P c a δ' (Q : Option Int → Hp → Prop), Rep K mg F H L σ δ P → partE f δ = .inr (c, a, δ') →
    (∀ cls d H' F' P', Post F H (Wr L P) F' H' (Wr L P') → Rep K mg F' H' L σ δ' P' → ExcIs K mg F' c a cls d → W cls d σ H') → t σ H Q
theorem mno_none : MnO K mg W tNoPart none where
  ok := fun σ H F L δ P i δ' Q R e k => by cases e; exact k H F P Post.refl R
  ex := fun σ H F L δ P c a δ' Q R e k => by cases e
theorem mno_some (h : MnE K mg W ta fa) : MnO K mg W (tPart ta) (some fa) where
  ok := fun σ H F L δ P i δ' Q R e k => by
    simp only [partE] at e
    split at e
    · rename_i j δ1 q
      cases e
      exact h.ok σ H F L δ P _ _ _ R q fun v H' F' P' po R' rs => by
        cases (show Fz K mg F' v (.int j) from rs)
        exact ⟨j, rfl, k H' F' P' po R'⟩
    · cases e
    · cases e
    · cases e
  ex := fun σ H F L δ P c a δ' Q R e k => by
    simp only [partE] at e
    split at e
    · cases e
    · cases e
    · rename_i q
      cases e
      exact h.ex σ H F L δ P _ _ _ _ R q k
    · cases e
theorem mn_sl {r : V → Option Int → Option Int → Hp → VK → Prop} {tl th : TO} {lo hi : Option Ex} (ho : SlOk K mg r) (ha : MnE K mg W ta fa) (h1 : MnO K mg W tl lo) (h2 : MnO K mg W th hi) : MnE K mg W (tSl r ta tl th) (slE fa lo hi) := by
  refine ha.then_ (T := fun σ x H1 Q => tl σ H1 fun l H2 => th σ H2 fun u H3 => r x l u H3 Q) (fun σ H F L δ P ra v rr δ' Q R rs e k => ?_) (fun σ H F L δ P ra v c a δ' Q R rs e k => ?_)
  · split at e
    · cases e
    · cases e
    · rename_i i δ2 q1
      split at e
      · cases e
      · cases e
      · rename_i j δ3 q2
        cases d1 : toD ra δ3 with
        | none => rw [d1] at e; cases e
        | some x =>
          rw [d1] at e
          obtain ⟨z, e1, rfl, rfl⟩ := ofO_ok e
          refine h1.ok σ H F L δ P _ _ _ R q1 fun H1 F1 P1 po1 R1 => h2.ok σ H1 F1 L δ2 P1 _ _ _ R1 q2 fun H2 F2 P2 po2 R2 => ?_
          exact ho F2 H2 v x i j z Q R2.sub (R2.view (rs.mono (po1.trans po2).mono) d1) e1 fun v' H' F' gr hz => k v' H' F' P2 ((po1.trans po2).trans gr.post) (R2.grow gr) hz
  · split at e
    · rename_i q1
      cases e
      exact h1.ex σ H F L δ P _ _ _ _ R q1 k
    · cases e
    · rename_i i δ2 q1
      split at e
      · rename_i q2
        cases e
        exact h1.ok σ H F L δ P _ _ _ R q1 fun H1 F1 P1 po1 R1 => h2.ex σ H1 F1 L δ2 P1 _ _ _ _ R1 q2 fun cls d H2 F2 P2 po2 R2 x => k cls d H2 F2 P2 (po1.trans po2) R2 x
      · cases e
      · split at e
        · exact (ofO_ex e).elim
        · cases e
def rSlD (K : PySem.W.Frag) : V → Option Int → Option Int → Hp → VK → Prop := fun x lo hi H Q => rSlL K x lo hi H Q ∨ (fun x lo hi H Q => rSlA K x lo hi H Q ∨ rSlS x lo hi H Q) x lo hi H Q
theorem sl_D {X : Cx} : SlR X (rSlD X.K) := sl_list.or (sl_tupA.or sl_str)
theorem FzAll.cut {F : Hp} {vs : List V} {l : List D} (h : FzAll K mg F vs l) (lo hi : Option Int) : FzAll K mg F (cutV vs lo hi) (cutD l lo hi) := by
  unfold cutV cutD
  rw [h.len]
  exact (h.drop _).take _
theorem cutD_whole {l : List D} {lo hi : Option Int} (h : HT.sIx l.length 0 lo = 0 ∧ HT.sIx l.length l.length hi = l.length) : cutD l lo hi = l := by
  unfold cutD
  rw [h.1, h.2]
  simp
theorem slD_ok : SlOk K mg (rSlD K) := by
  intro F H v x lo hi z Q sub hx e k
  cases x with
  | list l =>
    cases e
    obtain ⟨a, vs, rfl, h1, h2⟩ := hx
    refine .inl ⟨a, vs, rfl, .inl (.inl h1), fun p n => ?_⟩
    obtain ⟨g, f⟩ := fzNewL sub n (h2.cut lo hi)
    exact k _ _ _ g f
  | tuple l =>
    cases e
    obtain ⟨a, vs, rfl, h1, h2⟩ := hx
    refine .inr (.inl ⟨a, vs, rfl, same_sqT sub h1, fun hw => ?_, fun hw p n => ?_⟩)
    · rw [h2.len] at hw
      rw [cutD_whole hw] at k
      exact k _ H F (Grow.refl sub) (.tup h1 h2)
    · obtain ⟨g, f⟩ := fzNewT sub n (h2.cut lo hi)
      exact k _ _ _ g f
  | str s =>
    simp only [gSl] at e
    split at e
    · rename_i hz
      cases e
      exact .inr (.inr ⟨s, vwS hx, szl hz, k _ H F (Grow.refl sub) (.str _)⟩)
    · cases e
  | _ => cases e

/-! ### isinstance(e, T) -/
theorem tyx_of {F H : Hp} {v : V} {x : D} {T : String} {b : Bool} (sub : Same F H) (hx : Vw K mg F H v x) (hT : T = "int" ∨ T = "bool" ∨ T = "str" ∨ T = "tuple" ∨ T = "list" ∨ T = "dict") (e : isT T x = some (.bool b)) :
    ∃ t : Value, TyX K H v t ∧ PySem.W.kitOne K t (.type T) = some b := by
  cases x with
  | none =>
    rw [vwN hx]; cases e
    refine ⟨_, .base .non, kit_ty ?_⟩
    rcases hT with rfl | rfl | rfl | rfl | rfl | rfl <;> decide +kernel
  | bool c =>
    rw [vwB hx]; cases e
    refine ⟨_, .base (.bl c), kit_ty ?_⟩
    rcases hT with rfl | rfl | rfl | rfl | rfl | rfl <;> decide +kernel
  | int c =>
    rw [vwI hx]; cases e
    refine ⟨_, .base (.int c), kit_ty ?_⟩
    rcases hT with rfl | rfl | rfl | rfl | rfl | rfl <;> decide +kernel
  | str c =>
    rw [vwS hx]; cases e
    refine ⟨_, .base (.str c), kit_ty ?_⟩
    rcases hT with rfl | rfl | rfl | rfl | rfl | rfl <;> decide +kernel
  | list l =>
    obtain ⟨a, vs, rfl, h1, h2⟩ := hx
    cases e
    refine ⟨_, .base (.lst h1), kit_ty ?_⟩
    rcases hT with rfl | rfl | rfl | rfl | rfl | rfl <;> decide +kernel
  | tuple l =>
    obtain ⟨a, vs, rfl, h1, h2⟩ := hx
    cases e
    refine ⟨.type "tuple", ?_, kit_ty ?_⟩
    · rcases same_sqT sub h1 with (q | ⟨o, q⟩) | ⟨o, its, n, q, hc, _⟩
      · exact .base (.tup q)
      · exact .fTuple q
      · exact .kTuple q hc
    · rcases hT with rfl | rfl | rfl | rfl | rfl | rfl <;> decide +kernel
  | dict l => cases e
theorem isT_bool {T : String} {x z : D} (e : isT T x = some z) : ∃ b, z = .bool b := by
  cases x <;> cases e <;> exact ⟨_, rfl⟩
theorem mn_isT {T : String} (hT : T = "int" ∨ T = "bool" ∨ T = "str" ∨ T = "tuple" ∨ T = "list" ∨ T = "dict") (ha : MnE K mg W ta fa) : MnE K mg W (tCB (rIsi K) (tCons ta (tCons (tC (.ty T)) tNil))) (op1 (isT T) fa) := by
  refine ha.then_ (g := fun ra δ1 => match toD ra δ1 with | some x => ofO (isT T x) δ1 | none => .bad) (T := fun σ v H Q => rIsi K [v, .ty T] H Q) (fun σ H F L δ P ra v r' δ' Q R rs e k => ?_) (fun σ H F L δ P ra v c a δ' Q R rs e k => ?_)
  · cases q : toD ra δ with
    | none => rw [q] at e; cases e
    | some x =>
      rw [q] at e
      obtain ⟨z, e1, rfl, rfl⟩ := ofO_ok e
      obtain ⟨b, rfl⟩ := isT_bool e1
      obtain ⟨t, h1, h2⟩ := tyx_of R.sub (R.view rs q) hT e1
      exact ⟨v, .ty T, t, .type T, b, rfl, .ty T, h1, h2, k _ H F P Post.refl R (.bl b)⟩
  · cases q : toD ra δ with
    | none => rw [q] at e; cases e
    | some x => rw [q] at e; exact (ofO_ex e).elim
end

/-! ### rules -/
section
variable {X : Cx} {W : WX} {a b c e : Expr} {es rest : List Expr} {fa fb fc : Ex} {pos p : Pos} {fs : List Ex} {ta tb : TE} {tl : TA} {tt tu : TT}
theorem de_tup {x1} (h : DA X W es tl (evA fs)) (hl : fs.length ≤ 1000 := by exact Nat.le_of_ble_eq_true rfl) : DE X W (.Tuple es x1 pos) (tTup tl) (tupE fs) := ⟨pe_tup h.pe, mn_tup h.mn hl⟩
theorem de_lst (h : DA X W es tl (evA fs)) (hl : fs.length ≤ 1000 := by exact Nat.le_of_ble_eq_true rfl) : DE X W (.List es pos) (tLst tl) (lstE fs) := ⟨pe_lst h.pe, mn_lst h.mn hl⟩
theorem de_ix (ha : DE X W a ta fa) (hb : DE X W b tb fb) (hs : PlainIx b := by exact fun _ _ => rfl) : DE X W (.Subscript a b pos) (tOp (rIx X.K) ta tb) (op2 gIx fa fb) :=
  ⟨pe_ix ix_seq ha.pe hb.pe hs, mn_op2 o2_ix ha.mn hb.mn⟩
structure DO (X : Cx) (W : WX) (e : Option Expr) (t : TO) (f : Option Ex) : Prop where
  pe : PO X e t
  mn : MnO X.K X.mg W t f
theorem do_none : DO X W none tNoPart none := ⟨po_none, mno_none⟩
theorem do_some (h : DE X W e ta fa) : DO X W (some e) (tPart ta) (some fa) := ⟨po_some h.pe, mno_some h.mn⟩
theorem de_sl {lo hi : Option Expr} {fl fh : Option Ex} {p2 : Pos} {t1 t2 : TO} (ha : DE X W e ta fa) (h1 : DO X W lo t1 fl) (h2 : DO X W hi t2 fh) : DE X W (.Subscript e (.Slice lo hi none p2) pos) (tSl (rSlD X.K) ta t1 t2) (slE fa fl fh) :=
  ⟨pe_slice sl_D ha.pe h1.pe h2.pe, mn_sl slD_ok ha.mn h1.mn h2.mn⟩
theorem de_isT {T : Str} {TS : String} {p1 p2 : Pos} (ha : DE X W e ta fa) (hT : TS = "int" ∨ TS = "bool" ∨ TS = "str" ∨ TS = "tuple" ∨ TS = "list" ∨ TS = "dict") (hm1 : X.mg "isinstance" = none) (hm2 : X.mg T = none) (hv : bootBuiltins T = some (.type TS)) (hv1 : bootBuiltins "isinstance" = some (.builtin "isinstance"))
    (hg1 : Gl X "isinstance" := by rfl) (hg2 : Gl X T := by rfl) (hn : T ≠ "__name__" := by decide) (hd : (T == ("__debug__" : Str)) = false := by decide)
    (he : starEach [e, .Name T p2] X.env = (false, eval e X.env) :: starEach [.Name T p2] X.env := by rfl) (he2 : starEach [.Name T p2] X.env = (false, eval (.Name T p2) X.env) :: starEach [] X.env := by rfl) (hpl : (backTo pos (starEach [.Name T p2] X.env)).any (·.1) = false := by rfl) :
    DE X W (.Call (.Name "isinstance" p1) [e, .Name T p2] [] pos) (tCB (rIsi X.K) (tCons ta (tCons (tC (.ty TS)) tNil))) (op1 (isT TS) fa) :=
  ⟨pe_callB call_isi hg1 hm1 hv1 (pa_cons ha.pe (pa_cons (pe_bltn (v := .ty TS) hg2 hm2 hv rfl hn hd) pa_nil he2) he) (by decide) (by decide) he hpl, mn_isT hT ha.mn⟩

/-! tests -/
theorem dt_cmp {op : CmpOp} {r : R2} {g : D → D → Option D} (ho : OpR X (compareOp op) r) (hg : Op2 X.K X.mg r g) (ha : DE X W a ta fa) (hb : DE X W b tb fb) (hm : behindInMarks op b = false) : DT X W (.Compare a [op] [b] pos) (tTest (tOp r ta tb)) (op2 g fa fb) :=
  ⟨pt_cmpR ho ha.pe hb.pe hm, mn_test (mn_op2 hg ha.mn hb.mn)⟩
def tTru (K : PySem.W.Frag) (ta : TE) : TT := fun σ H Q => ta σ H fun x H' => ∃ k, TruV K x H' k ∧ Q k H'
theorem dt_tru (ha : DE X W a ta fa) (he : ∀ whole, isTrue a X.env whole = (do let v ← whole; standAt a.pos; holding [v] (truthy v)) := by intro _; rfl) : DT X W a (tTru X.K ta) (truE fa) := ⟨pt_truth ha.pe he, mn_truth ha.mn⟩
theorem dt_not (ha : DT X W a tt fa) : DT X W (.UnaryOp .Not a pos) (tNot tt) (notT fa) := ⟨pt_not ha.pe, mn_not ha.mn⟩
structure DW (X : Cx) (W : WX) (e : Expr) (t : TT) (f : Ex) : Prop where
  pe : PW X e t
  mn : MnT X.K X.mg W t f
theorem DW.dt (h : DW X W e tt fa) : DT X W e tt fa := ⟨h.pe.pt, h.mn⟩
theorem dw_and1 (ha : DT X W a tt fa) : DW X W (.BoolOp .And [a] pos) tt fa := ⟨pw_and1 ha.pe, ha.mn⟩
theorem dw_or1 (ha : DT X W a tt fa) : DW X W (.BoolOp .Or [a] pos) tt fa := ⟨pw_or1 ha.pe, ha.mn⟩
theorem dw_and (ha : DT X W a tt fa) (hb : DW X W (.BoolOp .And (b :: rest) pos) tu fb) : DW X W (.BoolOp .And (a :: b :: rest) pos) (tAnd tt tu) (andT fa fb) := ⟨pw_and ha.pe hb.pe, mn_and ha.mn hb.mn⟩
theorem dw_or (ha : DT X W a tt fa) (hb : DW X W (.BoolOp .Or (b :: rest) pos) tu fb) : DW X W (.BoolOp .Or (a :: b :: rest) pos) (tOr tt tu) (orT fa fb) := ⟨pw_or ha.pe hb.pe, mn_or ha.mn hb.mn⟩
theorem de_if (hc : DT X W c tt fc) (ha : DE X W a ta fa) (hb : DE X W b tb fb) : DE X W (.IfExp c a b pos) (tIf tt ta tb) (ifE fc fa fb) := ⟨pe_ifExp hc.pe ha.pe hb.pe, mn_if hc.mn ha.mn hb.mn⟩
theorem de_one {op} (h : DE X W a ta fa) : DE X W (.BoolOp op [a] pos) ta fa := ⟨pe_one h.pe, h.mn⟩
theorem de_and (ha : DE X W a ta fa) (hb : DE X W (.BoolOp .And (b :: rest) pos) tb fb) : DE X W (.BoolOp .And (a :: b :: rest) pos) (tAndT X.K ta tb) (andV fa fb) := ⟨pe_andT ha.pe hb.pe, mn_andV ha.mn hb.mn⟩
theorem de_or (ha : DE X W a ta fa) (hb : DE X W (.BoolOp .Or (b :: rest) pos) tb fb) : DE X W (.BoolOp .Or (a :: b :: rest) pos) (tOrT X.K ta tb) (orV fa fb) := ⟨pe_orT ha.pe hb.pe, mn_orV ha.mn hb.mn⟩
theorem de_not (ha : DE X W a ta fa) : DE X W (.UnaryOp .Not a pos) (tNotT X.K ta) (notV fa) := ⟨pe_notT ha.pe, mn_notV ha.mn⟩
/-- chains -/
structure DC (X : Cx) (W : WX) (ops : List CmpOp) (es : List Expr) (t : TC) (l : List ((D → D → Option D) × Ex)) : Prop where
  pe : PCh X ops es t
  mn : MnC X.K X.mg W t l
theorem dc_one {op : CmpOp} {r : R2} {g : D → D → Option D} (ho : OpR X (compareOp op) r) (hg : Op2 X.K X.mg r g) (hb : DE X W b tb fb) : DC X W [op] [b] (tOne r tb) [(g, fb)] := ⟨pch_one ho hb.pe, mnc_one hg hb.mn⟩
theorem dc_cons {op : CmpOp} {ops : List CmpOp} {es : List Expr} {r : R2} {g : D → D → Option D} {q : (D → D → Option D) × Ex} {l : List ((D → D → Option D) × Ex)} {tc : TC} (ho : OpR X (compareOp op) r) (hg : Op2 X.K X.mg r g) (hb : DE X W b tb fb) (hr : DC X W ops es tc (q :: l)) :
    DC X W (op :: ops) (b :: es) (tLink r tb tc) ((g, fb) :: q :: l) := ⟨pch_link ho hb.pe hr.pe, mnc_link hg hb.mn hr.mn⟩
theorem de_chain {o1 o2 : CmpOp} {ops : List CmpOp} {e1 e2 : Expr} {es : List Expr} {l : List ((D → D → Option D) × Ex)} {tc : TC} (ha : DE X W a ta fa) (hr : DC X W (o1 :: o2 :: ops) (e1 :: e2 :: es) tc l) (hm : lastMarks (o1 :: o2 :: ops) (e1 :: e2 :: es) = false := by with_unfolding_all rfl) :
    DE X W (.Compare a (o1 :: o2 :: ops) (e1 :: e2 :: es) pos) (tChn ta tc) (chainE fa l) := ⟨pe_chn ha.pe hr.pe hm, mn_chain ha.mn hr.mn⟩
theorem dt_chain {o1 o2 : CmpOp} {ops : List CmpOp} {e1 e2 : Expr} {es : List Expr} {l : List ((D → D → Option D) × Ex)} {tc : TC} (ha : DE X W a ta fa) (hr : DC X W (o1 :: o2 :: ops) (e1 :: e2 :: es) tc l) (hm : lastMarks (o1 :: o2 :: ops) (e1 :: e2 :: es) = false := by with_unfolding_all rfl) :
    DT X W (.Compare a (o1 :: o2 :: ops) (e1 :: e2 :: es) pos) (tTest (tChn ta tc)) (chainE fa l) := ⟨pt_chn ha.pe hr.pe hm, mn_test (mn_chain ha.mn hr.mn)⟩
/-! operators -/
theorem de_add (ha : DE X W a ta fa) (hb : DE X W b tb fb) : DE X W (.BinOp a .Add b pos) (tOp (rAdd X.K) ta tb) (op2 gAdd fa fb) := de_op2 op_addD o2_add ha hb
theorem de_sub (ha : DE X W a ta fa) (hb : DE X W b tb fb) : DE X W (.BinOp a .Sub b pos) (tOp (rI0 fun i j => .int (i - j)) ta tb) (op2 gSub fa fb) := de_op2 op_sub o2_sub ha hb
theorem de_mul (ha : DE X W a ta fa) (hb : DE X W b tb fb) : DE X W (.BinOp a .Mult b pos) (tOp (rMul X.K) ta tb) (op2 gMul fa fb) := de_op2 op_mulD o2_mul ha hb
theorem de_fdiv (ha : DE X W a ta fa) (hb : DE X W b tb fb) : DE X W (.BinOp a .FloorDiv b pos) (tOp (rI CDivW fun i j => .int (i / j)) ta tb) (op2 gFdiv fa fb) := de_op2 op_fdivW o2_fdiv ha hb
theorem de_mod (ha : DE X W a ta fa) (hb : DE X W b tb fb) : DE X W (.BinOp a .Mod b pos) (tOp (rI (fun _ j => 0 < j) fun i j => .int (i % j)) ta tb) (op2 gMod fa fb) := de_op2 op_mod o2_mod ha hb
theorem de_pow (ha : DE X W a ta fa) (hb : DE X W b tb fb) : DE X W (.BinOp a .Pow b pos) (tOp (rI CPow fun i j => .int (i ^ j.toNat)) ta tb) (op2 gPow fa fb) := de_op2 op_pow o2_pow ha hb
theorem de_shl (ha : DE X W a ta fa) (hb : DE X W b tb fb) : DE X W (.BinOp a .LShift b pos) (tOp (rI CPow fun i j => .int (i * 2 ^ j.toNat)) ta tb) (op2 gShl fa fb) := de_op2 op_shl o2_shl ha hb
theorem de_shr (ha : DE X W a ta fa) (hb : DE X W b tb fb) : DE X W (.BinOp a .RShift b pos) (tOp (rI (fun _ j => 0 ≤ j) fun i j => .int (i / 2 ^ j.toNat)) ta tb) (op2 gShr fa fb) := de_op2 op_shr o2_shr ha hb
theorem de_neg (ha : DE X W a ta fa) : DE X W (.UnaryOp .USub a pos) (tUn (rU fun i => .int (-i)) ta) (op1 gNeg fa) := de_op1 un_neg o1_neg ha
end
end Dl

/-! DlF: statements. -/
namespace Dl
open PySem L2

/-- how a block ends -/
inductive Out where
  | nx (δ : Env) | rt (r : T) (δ : Env) | bk (δ : Env) | ct (δ : Env) | ex (c : Str) (a : D) (δ : Env) | bad
abbrev Sx := Env → Out
def Agree (S : List Nat) (σ σ' : St) : Prop := ∀ i ∈ S, σ'.getD i none = σ.getD i none
theorem Agree.refl {S : List Nat} {σ : St} : Agree S σ σ := fun _ _ => rfl
theorem Agree.trans {S : List Nat} {σ σ1 σ2 : St} (a : Agree S σ σ1) (b : Agree S σ1 σ2) : Agree S σ σ2 := fun i h => (b i h).trans (a i h)
theorem Agree.sub {S S' : List Nat} {σ σ1 : St} (a : Agree S σ σ1) (h : ∀ i ∈ S', i ∈ S) : Agree S' σ σ1 := fun i q => a i (h i q)
theorem Agree.set {S : List Nat} {σ : St} {i : Nat} {v : Option V} (h : i ∉ S) : Agree S σ (σ.set i v) := fun j q => getD_set_ne fun e => h (e ▸ q)

section
variable (K : PySem.W.Frag) (mg : Str → Option Value) (W : WX)
def OutOk (S : List Nat) (F H : Hp) (L : Addr → Prop) (P : Nat → Addr → Prop) (σ : St) (D : Ends) : Out → Prop
  | .nx δ' => ∀ σ' H' F' P', Agree S σ σ' → Post F H (Wr L P) F' H' (Wr L P') → Rep K mg F' H' L σ' δ' P' → D.nx σ' H'
  | .bk δ' => ∀ σ' H' F' P', Agree S σ σ' → Post F H (Wr L P) F' H' (Wr L P') → Rep K mg F' H' L σ' δ' P' → D.bk σ' H'
  | .ct δ' => ∀ σ' H' F' P', Agree S σ σ' → Post F H (Wr L P) F' H' (Wr L P') → Rep K mg F' H' L σ' δ' P' → D.ct σ' H'
  | .rt r δ' => ∀ σ' v H' F' P' Pr, Agree S σ σ' → Post F H (Wr L P) F' H' (fun a => Wr L P' a ∨ Pr a) → Rep K mg F' H' L σ' δ' P' → Ow K mg F' H' L v r Pr → (∀ a, Pr a → ¬ U P' a) → D.rt v H'
  | .ex c a δ' => ∀ σ' cls d H' F' P', Agree S σ σ' → Post F H (Wr L P) F' H' (Wr L P') → Rep K mg F' H' L σ' δ' P' → ExcIs K mg F' c a cls d → W cls d σ' H'
  | .bad => False
structure MnS (S : List Nat) (t : TS) (f : Sx) : Prop where
  run : ∀ σ H F L δ P (D : Ends), Rep K mg F H L σ δ P → OutOk K mg W S F H L P σ D (f δ) → t D σ H
end
def DS (X : Cx) (W : WX) (S : List Nat) (st : Stmt) (f : Sx) : Prop := ∃ t, PS X st t ∧ MnS X.K X.mg W S t f
def DSs (X : Cx) (W : WX) (S : List Nat) (st : List Stmt) (f : Sx) : Prop := ∃ t, PSs X st t ∧ MnS X.K X.mg W S t f

def Out.seq (o : Out) (g : Sx) : Out := match o with
  | .nx δ => g δ
  | o => o
def seqS (f g : Sx) : Sx := fun δ => (f δ).seq g
def nxS : Sx := .nx
def bkS : Sx := .bk
def ctS : Sx := .ct
/-- an expression, then a step -/
def Re.out (e : Re) (k : Rs → Env → Out) : Out := match e with
  | .ok r δ => k r δ
  | .ex c a δ => .ex c a δ
  | .bad => .bad
def exprS (f : Ex) : Sx := fun δ => (f δ).out fun _ δ1 => .nx δ1
def asgS (i : Nat) (f : Ex) : Sx := fun δ => (f δ).out fun r δ1 => match frz r δ1 with
  | some (x, δ2) => .nx (δ2.set i (some (.d x)))
  | none => .bad
def retS (f : Ex) : Sx := fun δ => (f δ).out fun r δ1 => match r with
  | .d x => .rt (.d x) δ1
  | .sl i => (match δ1.getD i none with
    | some (.own l) => .rt (.own l) (δ1.set i none)
    | some (.odk l) => .rt (.odk l) (δ1.set i none)
    | some (.odt l) => .rt (.odt l) (δ1.set i none)
    | _ => .bad)
def retNone : Sx := fun δ => .rt (.d .none) δ
def ifS (c : Ex) (f g : Sx) : Sx := fun δ => (c δ).out fun r δ1 => match r with
  | .d (.bool true) => f δ1
  | .d (.bool false) => g δ1
  | _ => .bad

section
variable {K : PySem.W.Frag} {mg : Str → Option Value} {W : WX} {S : List Nat} {t u : TS} {f g : Sx} {ta tb : TE} {fa fb : Ex}
theorem OutOk.later {F H F1 H1 : Hp} {L : Addr → Prop} {P P1 : Nat → Addr → Prop} {σ σ1 : St} {D : Ends} {o : Out} (h : OutOk K mg W S F H L P σ D o) (a : Agree S σ σ1) (p : Post F H (Wr L P) F1 H1 (Wr L P1)) : OutOk K mg W S F1 H1 L P1 σ1 D o := by
  cases o with
  | nx δ => exact fun σ' H' F' P' a' p' R => h σ' H' F' P' (a.trans a') (p.trans p') R
  | bk δ => exact fun σ' H' F' P' a' p' R => h σ' H' F' P' (a.trans a') (p.trans p') R
  | ct δ => exact fun σ' H' F' P' a' p' R => h σ' H' F' P' (a.trans a') (p.trans p') R
  | rt r δ => exact fun σ' v H' F' P' Pr a' p' R o n => h σ' v H' F' P' Pr (a.trans a') (p.trans p') R o n
  | ex c x δ => exact fun σ' cls d H' F' P' a' p' R e => h σ' cls d H' F' P' (a.trans a') (p.trans p') R e
  | bad => exact h
theorem mn_seq (hf : MnS K mg W S t f) (hg : MnS K mg W S u g) : MnS K mg W S (tSeq t u) (seqS f g) := ⟨fun σ H F L δ P D R h => by
  refine hf.run σ H F L δ P _ R ?_
  show OutOk K mg W S F H L P σ { D with nx := u D } (f δ)
  have h' : OutOk K mg W S F H L P σ D ((f δ).seq g) := h
  cases q : f δ with
  | nx δ1 =>
    rw [q] at h'
    exact fun σ1 H1 F1 P1 a p R1 => hg.run σ1 H1 F1 L δ1 P1 D R1 (h'.later a p)
  | bk δ => rw [q] at h'; exact h'
  | ct δ => rw [q] at h'; exact h'
  | rt r δ => rw [q] at h'; exact h'
  | ex c x δ => rw [q] at h'; exact h'
  | bad => rw [q] at h'; exact h'⟩
theorem mn_next : MnS K mg W S tNext nxS := ⟨fun σ H F L δ P D R h => h σ H F P Agree.refl Post.refl R⟩
theorem mn_brk : MnS K mg W S tBreak bkS := ⟨fun σ H F L δ P D R h => h σ H F P Agree.refl Post.refl R⟩
theorem mn_cont : MnS K mg W S tCont ctS := ⟨fun σ H F L δ P D R h => h σ H F P Agree.refl Post.refl R⟩
/-- an expression whose value a statement uses -/
theorem MnE.stmt {k : Rs → Env → Out} {T : Ends → St → V → Hp → Prop} (ha : MnE K mg W ta fa)
    (ok : ∀ σ H F L δ P r v (D : Ends), Rep K mg F H L σ δ P → RsOk K mg F σ v r → OutOk K mg W S F H L P σ D (k r δ) → T D σ v H) :
    MnS K mg W S (fun D σ H => ta σ H fun x H1 => T D σ x H1) (fun δ => (fa δ).out k) := ⟨fun σ H F L δ P D R h => by
  cases q : fa δ with
  | ok r δ1 =>
    rw [q] at h
    exact ha.ok σ H F L δ P r δ1 _ R q fun v H1 F1 P1 p R1 rs => ok σ H1 F1 L δ1 P1 r v D R1 rs (OutOk.later h Agree.refl p)
  | ex c a δ1 =>
    rw [q] at h
    exact ha.ex σ H F L δ P c a δ1 _ R q fun cls d H1 F1 P1 p R1 x => h σ cls d H1 F1 P1 Agree.refl p R1 x
  | bad => rw [q] at h; exact h.elim⟩
theorem mn_expr (ha : MnE K mg W ta fa) : MnS K mg W S (tDrop ta) (exprS fa) :=
  ha.stmt (T := fun D σ _ H1 => D.nx σ H1) fun σ H F L δ P r v D R rs h => h σ H F P Agree.refl Post.refl R
/-- a slot is stored, its former object let go -/
theorem Rep.store {F H : Hp} {L : Addr → Prop} {σ : St} {δ : Env} {P : Nat → Addr → Prop} {i : Nat} {v : V} {t : T} {Pr : Addr → Prop} (R : Rep K mg F H L σ δ P) (hi : i < δ.length) (o : Ow K mg F H L v t Pr) (n : ∀ a, Pr a → ¬ U P a) :
    Rep K mg F H L (σ.set i (some v)) (δ.set i (some t)) (fun j a => if j = i then Pr a else P j a) := by
  have hσ : i < σ.length := by rw [R.len]; exact hi
  refine ⟨R.sub, by rw [List.length_set, List.length_set]; exact R.len, fun j u e => ?_, fun j a q => ?_, fun j k a q1 q2 => ?_, R.lk⟩
  · by_cases hj : i = j
    · subst hj
      rw [getD_set_self hi] at e
      cases e
      refine ⟨v, getD_set_self hσ, ?_⟩
      have : (fun a => if i = i then Pr a else P i a) = Pr := by funext a; rw [if_pos rfl]
      rw [this]; exact o
    · rw [getD_set_ne hj] at e
      obtain ⟨w, h1, h2⟩ := R.at_ j u e
      refine ⟨w, by rw [getD_set_ne hj]; exact h1, ?_⟩
      have : (fun a => if j = i then Pr a else P j a) = P j := by funext a; rw [if_neg (Ne.symm hj)]
      rw [this]; exact h2
  · by_cases hj : i = j
    · subst hj; exact ⟨t, getD_set_self hi⟩
    · rw [if_neg (Ne.symm hj)] at q
      obtain ⟨u, hu⟩ := R.no j a q
      exact ⟨u, by rw [getD_set_ne hj]; exact hu⟩
  · by_cases h1 : j = i
    · by_cases h2 : k = i
      · rw [h1, h2]
      · rw [if_pos h1] at q1; rw [if_neg h2] at q2
        exact absurd ⟨k, q2⟩ (n a q1)
    · by_cases h2 : k = i
      · rw [if_neg h1] at q1; rw [if_pos h2] at q2
        exact absurd ⟨j, q1⟩ (n a q2)
      · rw [if_neg h1] at q1; rw [if_neg h2] at q2
        exact R.dj j k a q1 q2
theorem U_store {P : Nat → Addr → Prop} {i : Nat} {Pr : Addr → Prop} {a : Addr} (h : U (fun j a => if j = i then Pr a else P j a) a) : U P a ∨ Pr a := by
  obtain ⟨j, q⟩ := h
  by_cases hj : j = i
  · rw [if_pos hj] at q; exact .inr q
  · rw [if_neg hj] at q; exact .inl ⟨j, q⟩
theorem Rep.storeD {F H : Hp} {L : Addr → Prop} {σ : St} {δ : Env} {P : Nat → Addr → Prop} {i : Nat} {v : V} {x : D} (R : Rep K mg F H L σ δ P) (hi : i < δ.length) (o : Fz K mg F v x) :
    ∃ P', Post F H (Wr L P) F H (Wr L P') ∧ Rep K mg F H L (σ.set i (some v)) (δ.set i (some (.d x))) P' :=
  ⟨_, Post.refl.weak fun a q => ⟨(U_store q.1).elim id fun z => z.elim, q.2⟩, R.store (t := .d x) (Pr := fun _ => False) hi ⟨o, fun _ z => z⟩ fun _ z => z.elim⟩
theorem set_ge {α : Type} {l : List α} {i : Nat} {x : α} (h : ¬ i < l.length) : l.set i x = l := List.set_eq_of_length_le (by omega)
theorem mn_asg {i : Nat} (hi : i ∉ S) (ha : MnE K mg W ta fa) : MnS K mg W S (tAsg ta (gName i)) (asgS i fa) := by
  refine ha.stmt (T := fun D σ v H1 => D.nx (σ.set i (some v)) H1) fun σ H F L δ P r v D R rs h => ?_
  cases q : frz r δ with
  | none => rw [q] at h; exact h.elim
  | some p =>
    obtain ⟨x, δ2⟩ := p
    rw [q] at h
    obtain ⟨F2, P2, p2, R2, hz⟩ := R.freeze rs q
    by_cases hl : i < δ2.length
    · obtain ⟨P3, p3, R3⟩ := R2.storeD hl hz
      exact h _ H F2 P3 (Agree.set hi) (p2.trans p3) R3
    · have h2 : δ2.set i (some (.d x)) = δ2 := set_ge hl
      have h3 : σ.set i (some v) = σ := set_ge (by rw [R2.len]; exact hl)
      rw [h3]
      simp only at h
      rw [h2] at h
      exact h σ H F2 P2 Agree.refl p2 R2
theorem mn_ret (ha : MnE K mg W ta fa) : MnS K mg W S (tRet ta) (retS fa) := by
  have move : ∀ {F H : Hp} {L : Addr → Prop} {σ : St} {δ : Env} {P : Nat → Addr → Prop} {i : Nat} {v : V} {t : T} {D : Ends}, Rep K mg F H L σ δ P → σ.getD i none = some v → δ.getD i none = some t → t.frz ≠ none → OutOk K mg W S F H L P σ D (.rt t (δ.set i none)) → D.rt v H := by
    intro F H L σ δ P i v t D R hv ht hf h
    obtain ⟨w, h1, h2⟩ := R.at_ i t ht
    rw [hv] at h1
    cases h1
    have hnl : ∀ a, P i a → ¬ L a := by
      cases e : t.frz with
      | none => exact absurd e hf
      | some x =>
        obtain ⟨_, _, _, _, _, _, g5⟩ := h2.freeze R.sub e
        exact g5
    have hi : i < δ.length := getD_lt ht
    refine h σ v H F (drop P i) (P i) Agree.refl (Post.refl.weak fun a q => ?_) ⟨R.sub, by rw [List.length_set]; exact R.len, fun j u e => ?_, fun j a q => ?_, fun j k a q1 q2 => R.dj j k a q1.2 q2.2, R.lk⟩ h2 fun a q ⟨j, q1, q2⟩ => q1 (R.dj j i a q2 q)
    · rcases q with ⟨⟨j, _, q⟩, n⟩ | q
      · exact ⟨⟨j, q⟩, n⟩
      · exact ⟨⟨i, q⟩, hnl a q⟩
    · by_cases hj : i = j
      · subst hj; rw [getD_set_self hi] at e; cases e
      · rw [getD_set_ne hj] at e
        obtain ⟨w, h1, h2⟩ := R.at_ j u e
        refine ⟨w, h1, ?_⟩
        have : drop P i j = P j := by funext a; exact propext ⟨fun z => z.2, fun z => ⟨fun y => hj y.symm, z⟩⟩
        rw [this]; exact h2
    · obtain ⟨u, hu⟩ := R.no j a q.2
      exact ⟨u, by rw [getD_set_ne (Ne.symm q.1)]; exact hu⟩
  refine ha.stmt (T := fun D σ v H1 => D.rt v H1) fun σ H F L δ P r v D R rs h => ?_
  cases r with
  | d x => exact h σ v H F P (fun _ => False) Agree.refl (Post.refl.weak fun a q => q.elim id fun z => z.elim) R ⟨rs, fun _ z => z⟩ fun _ z => z.elim
  | sl i =>
    simp only at h
    cases q : δ.getD i none with
    | none => rw [q] at h; exact h.elim
    | some t =>
      rw [q] at h
      cases t with
      | own l => exact move R rs q (fun z => nomatch z) h
      | odk l => exact move R rs q (fun z => nomatch z) h
      | odt l => exact move R rs q (fun z => nomatch z) h
      | _ => exact h.elim
theorem mn_retN : MnS K mg W S tRetN retNone := ⟨fun σ H F L δ P D R h => h σ .non H F P (fun _ => False) Agree.refl (Post.refl.weak fun a q => q.elim id fun z => z.elim) R ⟨.non, fun _ z => z⟩ fun _ z => z.elim⟩
theorem mn_ifS {tc : TT} {c : Ex} (hc : MnT K mg W tc c) (hf : MnS K mg W S t f) (hg : MnS K mg W S u g) : MnS K mg W S (tIfS tc t u) (ifS c f g) := ⟨fun σ H F L δ P D R h => by
  have h' : OutOk K mg W S F H L P σ D ((c δ).out fun r δ1 => match r with | .d (.bool true) => f δ1 | .d (.bool false) => g δ1 | _ => .bad) := h
  cases q : c δ with
  | ok r δ1 =>
    rw [q] at h'
    simp only [Re.out] at h'
    split at h'
    · exact hc.ok σ H F L δ P true δ1 _ R q fun H1 F1 P1 p R1 => by rw [if_pos rfl]; exact hf.run σ H1 F1 L δ1 P1 D R1 (h'.later Agree.refl p)
    · exact hc.ok σ H F L δ P false δ1 _ R q fun H1 F1 P1 p R1 => by rw [if_neg Bool.false_ne_true]; exact hg.run σ H1 F1 L δ1 P1 D R1 (h'.later Agree.refl p)
    · exact h'.elim
  | ex cc a δ1 =>
    rw [q] at h'
    exact hc.ex σ H F L δ P cc a δ1 _ R q fun cls d H1 F1 P1 p R1 x => h' σ cls d H1 F1 P1 Agree.refl p R1 x
  | bad => rw [q] at h'; exact h'.elim⟩
end

/-! ### fresh lists: the value of an assignment or a return may be owned -/
section
variable (K : PySem.W.Frag) (mg : Str → Option Value) (W : WX)
/-- a new object that nobody else holds -/
structure MnN (t : TE) (f : Env → Option (T × Env) ⊕ (Str × D × Env)) : Prop where
  ok : ∀ σ H F L δ P r δ' (Q : VK), Rep K mg F H L σ δ P → f δ = .inl (some (r, δ')) →
    (∀ v H' F' P' Pr, Post F H (Wr L P) F' H' (fun a => Wr L P' a ∨ Pr a) → Rep K mg F' H' L σ δ' P' → Ow K mg F' H' L v r Pr → (∀ a, Pr a → ¬ U P' a) → Q v H') → t σ H Q
  ex : ∀ σ H F L δ P c a δ' (Q : VK), Rep K mg F H L σ δ P → f δ = .inr (c, a, δ') →
    (∀ cls d H' F' P', Post F H (Wr L P) F' H' (Wr L P') → Rep K mg F' H' L σ δ' P' → ExcIs K mg F' c a cls d → W cls d σ H') → t σ H Q
end
abbrev Nx := Env → Option (T × Env) ⊕ (Str × D × Env)
structure DN (X : Cx) (W : WX) (e : Expr) (t : TE) (f : Nx) : Prop where
  pe : PE X e t
  mn : MnN X.K X.mg W t f
def asgN (i : Nat) (f : Nx) : Sx := fun δ => match f δ with
  | .inl (some (t, δ1)) => .nx (δ1.set i (some t))
  | .inl none => .bad
  | .inr (c, a, δ1) => .ex c a δ1
def retN (f : Nx) : Sx := fun δ => match f δ with
  | .inl (some (t, δ1)) => .rt t δ1
  | .inl none => .bad
  | .inr (c, a, δ1) => .ex c a δ1
section
variable {K : PySem.W.Frag} {mg : Str → Option Value} {W : WX} {S : List Nat} {ta : TE} {fa : Nx}
theorem mn_asgN {i : Nat} (hi : i ∉ S) (ha : MnN K mg W ta fa) : MnS K mg W S (tAsg ta (gName i)) (asgN i fa) := ⟨fun σ H F L δ P D R h => by
  simp only [asgN] at h
  cases q : fa δ with
  | inl o =>
    cases o with
    | none => rw [q] at h; exact h.elim
    | some p =>
      obtain ⟨t, δ1⟩ := p
      rw [q] at h
      refine ha.ok σ H F L δ P t δ1 _ R q fun v H1 F1 P1 Pr p1 R1 o n => ?_
      show D.nx (σ.set i (some v)) H1
      by_cases hl : i < δ1.length
      · exact h _ H1 F1 _ (Agree.set hi) (p1.weak fun a z => (U_store z.1).imp (fun y => ⟨y, z.2⟩) id) (R1.store hl o n)
      · have h2 : δ1.set i (some t) = δ1 := set_ge hl
        have h3 : σ.set i (some v) = σ := set_ge (by rw [R1.len]; exact hl)
        rw [h3]
        simp only at h
        rw [h2] at h
        exact h σ H1 F1 P1 Agree.refl (p1.weak fun a z => .inl z) R1
  | inr p =>
    obtain ⟨c, a, δ1⟩ := p
    rw [q] at h
    exact ha.ex σ H F L δ P c a δ1 _ R q fun cls d H1 F1 P1 p1 R1 x => h σ cls d H1 F1 P1 Agree.refl p1 R1 x⟩
theorem mn_retNw (ha : MnN K mg W ta fa) : MnS K mg W S (tRet ta) (retN fa) := ⟨fun σ H F L δ P D R h => by
  simp only [retN] at h
  cases q : fa δ with
  | inl o =>
    cases o with
    | none => rw [q] at h; exact h.elim
    | some p =>
      obtain ⟨t, δ1⟩ := p
      rw [q] at h
      exact ha.ok σ H F L δ P t δ1 _ R q fun v H1 F1 P1 Pr p1 R1 o n => h σ v H1 F1 P1 Pr Agree.refl p1 R1 o n
  | inr p =>
    obtain ⟨c, a, δ1⟩ := p
    rw [q] at h
    exact ha.ex σ H F L δ P c a δ1 _ R q fun cls d H1 F1 P1 p1 R1 x => h σ cls d H1 F1 P1 Agree.refl p1 R1 x⟩
end

/-! ### targets -/
inductive Tgt where
  | nm (i : Nat) | tp (l : List Tgt)
mutual
def asgT : Tgt → D → Env → Option Env
  | .nm i, x, δ => some (δ.set i (some (.d x)))
  | .tp l, .tuple xs, δ => asgTs l xs δ
  | .tp l, .list xs, δ => asgTs l xs δ
  | .tp _, _, _ => none
def asgTs : List Tgt → List D → Env → Option Env
  | [], [], δ => some δ
  | t :: ts, x :: xs, δ => (asgT t x δ).bind (asgTs ts xs)
  | _, _, _ => none
end
section
variable (K : PySem.W.Frag) (mg : Str → Option Value)
structure MnG (S : List Nat) (g : TG) (t : Tgt) : Prop where
  run : ∀ σ H F L δ P v x δ' (Q : St → Hp → Prop), Rep K mg F H L σ δ P → Fz K mg F v x → asgT t x δ = some δ' →
    (∀ σ' P', Agree S σ σ' → Post F H (Wr L P) F H (Wr L P') → Rep K mg F H L σ' δ' P' → Q σ' H) → g v σ H Q
structure MnGs (S : List Nat) (g : TGs) (t : List Tgt) : Prop where
  run : ∀ σ H F L δ P vs xs δ' (Q : St → Hp → Prop), Rep K mg F H L σ δ P → FzAll K mg F vs xs → asgTs t xs δ = some δ' →
    (∀ σ' P', Agree S σ σ' → Post F H (Wr L P) F H (Wr L P') → Rep K mg F H L σ' δ' P' → Q σ' H) → g vs σ H Q
  len : ∀ (xs : List D) δ δ', asgTs t xs δ = some δ' → xs.length = t.length
end
section
variable {K : PySem.W.Frag} {mg : Str → Option Value} {S : List Nat}
theorem mng_name {i : Nat} (hi : i ∉ S) : MnG K mg S (gName i) (.nm i) := ⟨fun σ H F L δ P v x δ' Q R hz e k => by
  simp only [asgT, Option.some.injEq] at e
  subst e
  by_cases hl : i < δ.length
  · obtain ⟨P3, p3, R3⟩ := R.storeD hl hz
    exact k _ P3 (Agree.set hi) p3 R3
  · have h2 : δ.set i (some (.d x)) = δ := set_ge hl
    have h3 : σ.set i (some v) = σ := set_ge (by rw [R.len]; exact hl)
    rw [h2] at k
    show Q (σ.set i (some v)) H
    rw [h3]
    exact k σ P Agree.refl Post.refl R⟩
theorem mngs_nil : MnGs K mg S gNil [] where
  run := fun σ H F L δ P vs xs δ' Q R hz e k => by
    cases xs with
    | nil =>
      cases hz
      simp only [asgTs, Option.some.injEq] at e
      subst e
      exact ⟨rfl, k σ P Agree.refl Post.refl R⟩
    | cons _ _ => simp [asgTs] at e
  len := fun xs δ δ' e => by
    cases xs with
    | nil => rfl
    | cons _ _ => simp [asgTs] at e
theorem mngs_cons {g : TG} {gs : TGs} {t : Tgt} {ts : List Tgt} (hg : MnG K mg S g t) (hs : MnGs K mg S gs ts) : MnGs K mg S (gCons g gs) (t :: ts) where
  run := fun σ H F L δ P vs xs δ' Q R hz e k => by
    cases xs with
    | nil => simp [asgTs] at e
    | cons x xs =>
      cases hz with
      | cons z zs =>
        simp only [asgTs, Option.bind_eq_some_iff] at e
        obtain ⟨δ1, e1, e2⟩ := e
        exact ⟨_, _, rfl, hg.run σ H F L δ P _ x δ1 _ R z e1 fun σ1 P1 a1 p1 R1 => hs.run σ1 H F L δ1 P1 _ xs δ' Q R1 zs e2 fun σ2 P2 a2 p2 R2 => k σ2 P2 (a1.trans a2) (p1.trans p2) R2⟩
  len := fun xs δ δ' e => by
    cases xs with
    | nil => simp [asgTs] at e
    | cons x xs =>
      simp only [asgTs, Option.bind_eq_some_iff] at e
      obtain ⟨δ1, e1, e2⟩ := e
      rw [List.length_cons, List.length_cons, hs.len xs δ1 δ' e2]
/-- a, b, .. = a tuple or a list -/
def gTL (K : PySem.W.Frag) (n : Nat) (t : TGs) : TG := fun v σ H Q => gTup K n t v σ H Q ∨ gUnl K n t v σ H Q
theorem mng_tupV {gs : TGs} {ts : List Tgt} (hs : MnGs K mg S gs ts) {σ : St} {H F : Hp} {L : Addr → Prop} {δ δ' : Env} {P : Nat → Addr → Prop} {v : V} {x : D} {Q : St → Hp → Prop} (R : Rep K mg F H L σ δ P) (hz : Vw K mg F H v x) (e : asgT (.tp ts) x δ = some δ')
    (k : ∀ σ' P', Agree S σ σ' → Post F H (Wr L P) F H (Wr L P') → Rep K mg F H L σ' δ' P' → Q σ' H) : gTL K ts.length gs v σ H Q := by
  cases x with
  | tuple xs =>
    obtain ⟨a, vs, rfl, h1, h2⟩ := hz
    simp only [asgT] at e
    exact .inl ⟨_, _, rfl, same_sqT R.sub h1, by rw [h2.len]; exact hs.len xs δ δ' e, hs.run σ H F L δ P _ xs δ' Q R h2 e k⟩
  | list xs =>
    obtain ⟨a, vs, rfl, h1, h2⟩ := hz
    simp only [asgT] at e
    exact .inr ⟨_, _, rfl, .inl (.inl h1), by rw [h2.len]; exact hs.len xs δ δ' e, hs.run σ H F L δ P _ xs δ' Q R h2 e k⟩
  | _ => simp [asgT] at e
theorem mng_tup {gs : TGs} {ts : List Tgt} (hs : MnGs K mg S gs ts) : MnG K mg S (gTL K ts.length gs) (.tp ts) := ⟨fun σ H F L δ P v x δ' Q R hz e k => mng_tupV hs R (Fz.vw R.sub hz) e k⟩
end
theorem pg_tl {X : Cx} {pos : Pos} {es : List Expr} {k : Nat} {t : TGs} {n : Nat} (hc : X.calm = true) (h : PGs X es t) (hn : (assignEach es X.env).length = n) (hst : (assignEach es X.env).findIdx? (·.1) = none) : PG X (.Tuple es k pos) (gTL X.K n t) :=
  ⟨fun pins s σ H v u Q I r hw => hw.elim (fun z => (pg_tup hc h hn hst).run pins s σ H v u Q I r z) (fun z => (pg_unl hc h hn hst).run pins s σ H v u Q I r z)⟩
structure DG (X : Cx) (S : List Nat) (e : Expr) (g : TG) (t : Tgt) : Prop where
  pg : PG X e g
  mn : MnG X.K X.mg S g t
structure DGs (X : Cx) (S : List Nat) (e : List Expr) (g : TGs) (t : List Tgt) : Prop where
  pg : PGs X e g
  mn : MnGs X.K X.mg S g t
/-- targets = e -/
def asgG (t : Tgt) (f : Ex) : Sx := fun δ => (f δ).out fun r δ1 => match frz r δ1 with
  | some (x, δ2) => (match asgT t x δ2 with
    | some δ3 => .nx δ3
    | none => .bad)
  | none => .bad
/-- a, b, .. = e, where e may be held by a name -/
def asgU (ts : List Tgt) (f : Ex) : Sx := fun δ => (f δ).out fun r δ1 => match toD r δ1 with
  | some x => (match asgT (.tp ts) x δ1 with
    | some δ3 => .nx δ3
    | none => .bad)
  | none => .bad
section
variable {K : PySem.W.Frag} {mg : Str → Option Value} {W : WX} {S : List Nat} {ta : TE} {fa : Ex}
theorem mn_asgG {g : TG} {t : Tgt} (hg : MnG K mg S g t) (ha : MnE K mg W ta fa) : MnS K mg W S (tAsg ta g) (asgG t fa) := by
  refine ha.stmt (T := fun D σ v H1 => g v σ H1 D.nx) fun σ H F L δ P r v D R rs h => ?_
  cases q : frz r δ with
  | none => rw [q] at h; exact h.elim
  | some p =>
    obtain ⟨x, δ2⟩ := p
    rw [q] at h
    simp only at h
    obtain ⟨F2, P2, p2, R2, hz⟩ := R.freeze rs q
    cases q2 : asgT t x δ2 with
    | none => rw [q2] at h; exact h.elim
    | some δ3 =>
      rw [q2] at h
      exact hg.run σ H F2 L δ2 P2 v x δ3 _ R2 hz q2 fun σ3 P3 a3 p3 R3 => h σ3 H F2 P3 a3 (p2.trans p3) R3
theorem mn_asgU {gs : TGs} {ts : List Tgt} (hg : MnGs K mg S gs ts) (ha : MnE K mg W ta fa) : MnS K mg W S (tAsg ta (gTL K ts.length gs)) (asgU ts fa) := by
  refine ha.stmt (T := fun D σ v H1 => gTL K ts.length gs v σ H1 D.nx) fun σ H F L δ P r v D R rs h => ?_
  cases q : toD r δ with
  | none => rw [q] at h; exact h.elim
  | some x =>
    rw [q] at h
    simp only at h
    cases q2 : asgT (.tp ts) x δ with
    | none => rw [q2] at h; exact h.elim
    | some δ3 =>
      rw [q2] at h
      exact mng_tupV hg R (R.view rs q) q2 fun σ3 P3 a3 p3 R3 => h σ3 H F P3 a3 p3 R3
end
/-! ### rules -/
section
variable {X : Cx} {W : WX} {S : List Nat} {st : Stmt} {sts a b : List Stmt} {e c : Expr} {f g : Sx} {fa fc : Ex} {ta : TE} {tt : TT} {pos pos' : Pos}
theorem dss_nil : DSs X W S [] nxS := ⟨_, pss_nil, mn_next⟩
theorem dss_cons (h1 : DS X W S st f) (h2 : DSs X W S sts g) : DSs X W S (st :: sts) (seqS f g) := let ⟨_, a1, a2⟩ := h1; let ⟨_, b1, b2⟩ := h2; ⟨_, pss_cons a1 b1, mn_seq a2 b2⟩
theorem dss_one (h1 : DS X W S st f) : DSs X W S [st] f := let ⟨_, a1, a2⟩ := h1; ⟨_, pss_one a1, a2⟩
theorem ds_pass : DS X W S (.Pass pos) nxS := ⟨_, ps_pass, mn_next⟩
theorem ds_break : DS X W S (.Break pos) bkS := ⟨_, ps_break, mn_brk⟩
theorem ds_continue : DS X W S (.Continue pos) ctS := ⟨_, ps_continue, mn_cont⟩
theorem ds_expr (ha : DE X W e ta fa) (hs : swapsWith e none pos.line X.env = pure false := by rfl) : DS X W S (.Expr e pos) (exprS fa) := ⟨_, ps_expr ha.pe hs, mn_expr ha.mn⟩
theorem ds_ret (ha : DE X W e ta fa) : DS X W S (.Return (some e) pos) (retS fa) := ⟨_, ps_ret ha.pe, mn_ret ha.mn⟩
theorem ds_retNone : DS X W S (.Return none pos) retNone := ⟨_, ps_retN, mn_retN⟩
theorem ds_if (hc : DT X W c tt fc) (h1 : DSs X W S a f) (h2 : DSs X W S b g) : DS X W S (.If c a b pos) (ifS fc f g) := let ⟨_, a1, a2⟩ := h1; let ⟨_, b1, b2⟩ := h2; ⟨_, ps_if hc.pe a1 b1, mn_ifS hc.mn a2 b2⟩
theorem ds_set (i : Nat) {x : Str} (hN : X.N.Nodup) (ha : DE X W e ta fa) (hS : i ∉ S := by decide) (hi : X.N[i]? = some x := by rfl) (hx : Loc X.env.scope x := by first | exact Or.inl rfl | exact Or.inr rfl) (hs : swapsWith e (some (.Name x pos')) pos.line X.env = pure false := by rfl) (hf : X.fn x = true ∨ X.env.scope.names.lookup x = some .local := by first | exact .inl rfl | exact .inr rfl) :
    DS X W S (.Assign [.Name x pos'] e pos) (asgS i fa) := ⟨_, ps_set hN hi hx ha.pe hs hf, mn_asg hS ha.mn⟩
theorem ds_setN (i : Nat) {x : Str} {fn : Nx} (hN : X.N.Nodup) (ha : DN X W e ta fn) (hS : i ∉ S := by decide) (hi : X.N[i]? = some x := by rfl) (hx : Loc X.env.scope x := by first | exact Or.inl rfl | exact Or.inr rfl) (hs : swapsWith e (some (.Name x pos')) pos.line X.env = pure false := by rfl) (hf : X.fn x = true ∨ X.env.scope.names.lookup x = some .local := by first | exact .inl rfl | exact .inr rfl) :
    DS X W S (.Assign [.Name x pos'] e pos) (asgN i fn) := ⟨_, ps_set hN hi hx ha.pe hs hf, mn_asgN hS ha.mn⟩
theorem ds_retN {fn : Nx} (ha : DN X W e ta fn) : DS X W S (.Return (some e) pos) (retN fn) := ⟨_, ps_ret ha.pe, mn_retNw ha.mn⟩
theorem dg_name (i : Nat) {x : Str} (hN : X.N.Nodup) (hS : i ∉ S := by decide) (hi : X.N[i]? = some x := by rfl) (hx : Loc X.env.scope x := by first | exact Or.inl rfl | exact Or.inr rfl) (hf : X.fn x = true ∨ X.env.scope.names.lookup x = some .local := by first | exact .inl rfl | exact .inr rfl) :
    DG X S (.Name x pos) (gName i) (.nm i) := ⟨pg_name hN hi hx hf, mng_name hS⟩
theorem dgs_nil : DGs X S [] gNil [] := ⟨pgs_nil, mngs_nil⟩
theorem dgs_cons {es : List Expr} {g1 : TG} {g2 : TGs} {t : Tgt} {ts : List Tgt} (h1 : DG X S e g1 t) (h2 : DGs X S es g2 ts) (hs : (assignEach (e :: es) X.env).map (·.2) = assign e X.env :: (assignEach es X.env).map (·.2) := by rfl) : DGs X S (e :: es) (gCons g1 g2) (t :: ts) :=
  ⟨pgs_cons h1.pg h2.pg hs, mngs_cons h1.mn h2.mn⟩
theorem dg_tup {es : List Expr} {k : Nat} {g2 : TGs} {ts : List Tgt} (hc : X.calm = true) (h : DGs X S es g2 ts) (hn : (assignEach es X.env).length = ts.length := by rfl) (hst : (assignEach es X.env).findIdx? (·.1) = none := by rfl) : DG X S (.Tuple es k pos) (gTL X.K ts.length g2) (.tp ts) :=
  ⟨pg_tl hc h.pg hn hst, mng_tup h.mn⟩
theorem ds_asgG {tg : Expr} {g1 : TG} {t : Tgt} (ha : DE X W e ta fa) (hg : DG X S tg g1 t) (hs : swapsWithSole [tg] e pos.line X.env = pure false := by rfl) (hw : swappedStores [tg] e X.env = pure none := by rfl)
    (h1 : (assignEach [tg] X.env).map (·.2) = [assign tg X.env] := by rfl) : DS X W S (.Assign [tg] e pos) (asgG t fa) := ⟨_, ps_asg ha.pe hg.pg hs hw h1, mn_asgG hg.mn ha.mn⟩
theorem ds_asgU {es : List Expr} {n : Nat} {g2 : TGs} {ts : List Tgt} (hc : X.calm = true) (ha : DE X W e ta fa) (hg : DGs X S es g2 ts) (hs : swapsWithSole [.Tuple es n pos'] e pos.line X.env = pure false := by rfl) (hw : swappedStores [.Tuple es n pos'] e X.env = pure none := by rfl)
    (hn : (assignEach es X.env).length = ts.length := by rfl) (hst : (assignEach es X.env).findIdx? (·.1) = none := by rfl) (h1 : (assignEach [.Tuple es n pos'] X.env).map (·.2) = [assign (.Tuple es n pos') X.env] := by rfl) : DS X W S (.Assign [.Tuple es n pos'] e pos) (asgU ts fa) := ⟨_, ps_asg ha.pe (pg_tl hc hg.pg hn hst) hs hw h1, mn_asgU hg.mn ha.mn⟩
end
end Dl

/-! DlG: lending a slot for a while, loops. -/
namespace Dl
open PySem L2

/-! ### lending -/
def T.lend : T → Option T
  | .own l => some (.bor l)
  | .odk l => some (.bdk l)
  | .odt l => some (.bdt l)
  | _ => none
def T.back : T → Option T
  | .bor l => some (.own l)
  | .bdk l => some (.odk l)
  | .bdt l => some (.odt l)
  | _ => none
def backAt (i : Nat) (δ : Env) : Option Env := (δ.getD i none).bind fun t => t.back.map fun u => δ.set i (some u)
def Out.back (i : Nat) : Out → Out
  | .nx δ => (match backAt i δ with | some δ' => .nx δ' | none => .bad)
  | .bk δ => (match backAt i δ with | some δ' => .bk δ' | none => .bad)
  | .ct δ => (match backAt i δ with | some δ' => .ct δ' | none => .bad)
  | .rt r δ => (match backAt i δ with | some δ' => .rt r δ' | none => .bad)
  | .ex c a δ => (match backAt i δ with | some δ' => .ex c a δ' | none => .bad)
  | .bad => .bad
def lockS (i : Nat) (f : Sx) : Sx := fun δ => match (δ.getD i none).bind T.lend with
  | some u => (f (δ.set i (some u))).back i
  | none => f δ
def lockE (i : Nat) (f : Ex) : Ex := fun δ => match (δ.getD i none).bind T.lend with
  | some u => (match f (δ.set i (some u)) with
    | .ok r δ1 => (match backAt i δ1 with | some δ2 => .ok r δ2 | none => .bad)
    | .ex c a δ1 => (match backAt i δ1 with | some δ2 => .ex c a δ2 | none => .bad)
    | .bad => .bad)
  | none => f δ
def lockN (i : Nat) (f : Nx) : Nx := fun δ => match (δ.getD i none).bind T.lend with
  | some u => (match f (δ.set i (some u)) with
    | .inl (some (t, δ1)) => (match backAt i δ1 with | some δ2 => .inl (some (t, δ2)) | none => .inl none)
    | .inl none => .inl none
    | .inr (c, a, δ1) => (match backAt i δ1 with | some δ2 => .inr (c, a, δ2) | none => .inl none))
  | none => f δ
section
variable {K : PySem.W.Frag} {mg : Str → Option Value} {W : WX} {S : List Nat} {F H F' H' : Hp} {L : Addr → Prop} {σ σ' : St} {δ δ' : Env} {P P' : Nat → Addr → Prop} {i : Nat} {v : V} {t u : T}
/-- the object's own address -/
theorem Ow.lend {Q : Addr → Prop} (h : Ow K mg F H L v t Q) (e : t.lend = some u) : ∃ a, v = .ref a ∧ ¬ L a ∧ (∀ b, Q b ↔ b = a) ∧ Ow K mg F H (fun b => L b ∨ b = a) v u Q := by
  cases t with
  | own l =>
    cases e
    obtain ⟨a, vs, rfl, h1, h2, h3, h4, h5⟩ := h
    exact ⟨a, rfl, h3, h5, a, vs, rfl, h1, h2, .inr rfl, h4, h5⟩
  | odk l =>
    cases e
    obtain ⟨a, vs, rfl, h1, h2, h3, h4, h5, h6⟩ := h
    exact ⟨a, rfl, h3, h6, a, vs, rfl, h1, h2, .inr rfl, h4, h5, h6⟩
  | odt l =>
    cases e
    obtain ⟨a, vs, rfl, h1, h2, h3, h4, h5, h6⟩ := h
    exact ⟨a, rfl, h3, h6, a, vs, rfl, h1, h2, .inr rfl, h4, h5, h6⟩
  | _ => cases e
theorem Ow.unlend {a : Addr} {Q : Addr → Prop} (h : Ow K mg F H (fun b => L b ∨ b = a) (.ref a) t Q) (n : ¬ L a) (e : t.back = some u) : Ow K mg F H L (.ref a) u Q := by
  cases t with
  | bor l =>
    cases e
    obtain ⟨b, vs, hb, h1, h2, h3, h4, h5⟩ := h
    cases hb
    exact ⟨a, vs, rfl, h1, h2, n, h4, h5⟩
  | bdk l =>
    cases e
    obtain ⟨b, vs, hb, h1, h2, h3, h4, h5, h6⟩ := h
    cases hb
    exact ⟨a, vs, rfl, h1, h2, n, h4, h5, h6⟩
  | bdt l =>
    cases e
    obtain ⟨b, vs, hb, h1, h2, h3, h4, h5, h6⟩ := h
    cases hb
    exact ⟨a, vs, rfl, h1, h2, n, h4, h5, h6⟩
  | _ => cases e
/-- another slot's object is told with one more (one less) lent address that is not its own -/
theorem Ow.relent {a : Addr} {Q : Addr → Prop} (h : Ow K mg F H L v t Q) (n : ¬ Q a) : Ow K mg F H (fun b => L b ∨ b = a) v t Q := by
  cases t with
  | d x => exact h
  | own l => obtain ⟨b, vs, rfl, h1, h2, h3, h4, h5⟩ := h; exact ⟨b, vs, rfl, h1, h2, fun z => z.elim h3 fun e => n ((h5 a).mpr e.symm), h4, h5⟩
  | bor l => obtain ⟨b, vs, rfl, h1, h2, h3, h4, h5⟩ := h; exact ⟨b, vs, rfl, h1, h2, .inl h3, h4, h5⟩
  | odk l => obtain ⟨b, vs, rfl, h1, h2, h3, h4, h5, h6⟩ := h; exact ⟨b, vs, rfl, h1, h2, fun z => z.elim h3 fun e => n ((h6 a).mpr e.symm), h4, h5, h6⟩
  | odt l => obtain ⟨b, vs, rfl, h1, h2, h3, h4, h5, h6⟩ := h; exact ⟨b, vs, rfl, h1, h2, fun z => z.elim h3 fun e => n ((h6 a).mpr e.symm), h4, h5, h6⟩
  | bdk l => obtain ⟨b, vs, rfl, h1, h2, h3, h4, h5, h6⟩ := h; exact ⟨b, vs, rfl, h1, h2, .inl h3, h4, h5, h6⟩
  | bdt l => obtain ⟨b, vs, rfl, h1, h2, h3, h4, h5, h6⟩ := h; exact ⟨b, vs, rfl, h1, h2, .inl h3, h4, h5, h6⟩
theorem Ow.unrelent {a : Addr} {Q : Addr → Prop} (h : Ow K mg F H (fun b => L b ∨ b = a) v t Q) (n : ¬ Q a) : Ow K mg F H L v t Q := by
  cases t with
  | d x => exact h
  | own l => obtain ⟨b, vs, rfl, h1, h2, h3, h4, h5⟩ := h; exact ⟨b, vs, rfl, h1, h2, fun z => h3 (.inl z), h4, h5⟩
  | bor l => obtain ⟨b, vs, rfl, h1, h2, h3, h4, h5⟩ := h; exact ⟨b, vs, rfl, h1, h2, h3.elim id fun e => absurd ((h5 a).mpr e.symm) n, h4, h5⟩
  | odk l => obtain ⟨b, vs, rfl, h1, h2, h3, h4, h5, h6⟩ := h; exact ⟨b, vs, rfl, h1, h2, fun z => h3 (.inl z), h4, h5, h6⟩
  | odt l => obtain ⟨b, vs, rfl, h1, h2, h3, h4, h5, h6⟩ := h; exact ⟨b, vs, rfl, h1, h2, fun z => h3 (.inl z), h4, h5, h6⟩
  | bdk l => obtain ⟨b, vs, rfl, h1, h2, h3, h4, h5, h6⟩ := h; exact ⟨b, vs, rfl, h1, h2, h3.elim id fun e => absurd ((h6 a).mpr e.symm) n, h4, h5, h6⟩
  | bdt l => obtain ⟨b, vs, rfl, h1, h2, h3, h4, h5, h6⟩ := h; exact ⟨b, vs, rfl, h1, h2, h3.elim id fun e => absurd ((h6 a).mpr e.symm) n, h4, h5, h6⟩
theorem Rep.lend (R : Rep K mg F H L σ δ P) (e : (δ.getD i none).bind T.lend = some u) : ∃ a, σ.getD i none = some (.ref a) ∧ ¬ L a ∧ P i a ∧ Rep K mg F H (fun b => L b ∨ b = a) σ (δ.set i (some u)) P := by
  obtain ⟨t, e1, e2⟩ := Option.bind_eq_some_iff.mp e
  obtain ⟨v, h1, h2⟩ := R.at_ i t e1
  obtain ⟨a, rfl, n, hq, h3⟩ := h2.lend e2
  have pa : P i a := (hq a).mpr rfl
  have hi : i < δ.length := getD_lt e1
  refine ⟨a, h1, n, pa, R.sub, by rw [List.length_set]; exact R.len, fun j w q => ?_, fun j b q => ?_, R.dj, fun b l => ?_⟩
  · by_cases hj : i = j
    · subst hj; rw [getD_set_self hi] at q; cases q; exact ⟨_, h1, h3⟩
    · rw [getD_set_ne hj] at q
      obtain ⟨w', q1, q2⟩ := R.at_ j w q
      exact ⟨w', q1, q2.relent fun z => hj (R.dj i j a pa z)⟩
  · by_cases hj : i = j
    · subst hj; exact ⟨u, getD_set_self hi⟩
    · rw [getD_set_ne hj]; exact R.no j b q
  · rcases l with l | rfl
    · exact R.lk b l
    · exact h2.has pa
theorem Rep.unlend {a : Addr} (R : Rep K mg F H (fun b => L b ∨ b = a) σ δ P) (hl : ∀ b, L b → H b ≠ none ∧ F b = none) (n : ¬ L a) (hv : σ.getD i none = some (.ref a)) (e : backAt i δ = some δ') : P i a ∧ Rep K mg F H L σ δ' P := by
  obtain ⟨t, e1, e2⟩ := Option.bind_eq_some_iff.mp e
  obtain ⟨u, e3, rfl⟩ := Option.map_eq_some_iff.mp e2
  obtain ⟨v, h1, h2⟩ := R.at_ i t e1
  rw [hv] at h1
  cases h1
  have hi : i < δ.length := getD_lt e1
  have pa : P i a := by
    cases t with
    | bor l => obtain ⟨b, vs, hb, _, _, _, _, h5⟩ := h2; cases hb; exact (h5 a).mpr rfl
    | bdk l => obtain ⟨b, vs, hb, _, _, _, _, _, h6⟩ := h2; cases hb; exact (h6 a).mpr rfl
    | bdt l => obtain ⟨b, vs, hb, _, _, _, _, _, h6⟩ := h2; cases hb; exact (h6 a).mpr rfl
    | _ => cases e3
  refine ⟨pa, R.sub, by rw [List.length_set]; exact R.len, fun j w q => ?_, fun j b q => ?_, R.dj, hl⟩
  · by_cases hj : i = j
    · subst hj; rw [getD_set_self hi] at q; cases q; exact ⟨_, hv, h2.unlend n e3⟩
    · rw [getD_set_ne hj] at q
      obtain ⟨w', q1, q2⟩ := R.at_ j w q
      exact ⟨w', q1, q2.unrelent fun z => hj (R.dj i j a pa z)⟩
  · by_cases hj : i = j
    · subst hj; exact ⟨u, getD_set_self hi⟩
    · rw [getD_set_ne hj]; exact R.no j b q
theorem Post.lkeep {W1 W2 : Addr → Prop} (R : Rep K mg F H L σ δ P) (p : Post F H (Wr L P) F' H' W2) : ∀ b, L b → H' b ≠ none ∧ F' b = none := fun b l => by
  obtain ⟨h1, h2⟩ := R.lk b l
  have nw : ¬ Wr L P b := fun z => z.2 l
  cases q : H b with
  | none => exact absurd q h1
  | some o =>
    refine ⟨by rw [p.keep b o q nw]; simp, ?_⟩
    cases q2 : F' b with
    | none => rfl
    | some x =>
      rcases p.newF b (by rw [q2]; simp) with z | z | z
      · exact absurd h2 z
      · exact absurd z nw
      · exact absurd z h1
/-- what was done under lending, told without it -/
theorem Post.unlend {a : Addr} {F1 H1 : Hp} {P1 : Nat → Addr → Prop} (pa : P i a) (n : ¬ L a) (pa1 : P1 i a) (p : Post F H (Wr (fun b => L b ∨ b = a) P) F1 H1 (Wr (fun b => L b ∨ b = a) P1)) : Post F H (Wr L P) F1 H1 (Wr L P1) := by
  refine ⟨p.mono, fun c o q m => p.keep c o q fun z => m ⟨z.1, fun y => z.2 (.inl y)⟩, fun c q => (p.newF c q).imp id fun z => z.imp (fun y => ⟨y.1, fun w => y.2 (.inl w)⟩) id, fun c q => ?_⟩
  by_cases hc : c = a
  · subst hc; exact .inl ⟨⟨i, pa⟩, n⟩
  · exact (p.newW c ⟨q.1, fun z => z.elim q.2 hc⟩).imp (fun y => ⟨y.1, fun w => y.2 (.inl w)⟩) id
theorem mn_lockS {ts : TS} {f : Sx} (h : MnS K mg W (i :: S) ts f) : MnS K mg W S ts (lockS i f) := ⟨fun σ H F L δ P D R ho => by
  simp only [lockS] at ho
  cases q : (δ.getD i none).bind T.lend with
  | none =>
    rw [q] at ho
    refine h.run σ H F L δ P D R ?_
    simp only at ho
    cases q2 : f δ with
    | nx δ1 => rw [q2] at ho; exact fun σ' H' F' P' a => ho σ' H' F' P' (a.sub fun j hj => List.mem_cons_of_mem _ hj)
    | bk δ1 => rw [q2] at ho; exact fun σ' H' F' P' a => ho σ' H' F' P' (a.sub fun j hj => List.mem_cons_of_mem _ hj)
    | ct δ1 => rw [q2] at ho; exact fun σ' H' F' P' a => ho σ' H' F' P' (a.sub fun j hj => List.mem_cons_of_mem _ hj)
    | rt r δ1 => rw [q2] at ho; exact fun σ' v H' F' P' Pr a => ho σ' v H' F' P' Pr (a.sub fun j hj => List.mem_cons_of_mem _ hj)
    | ex c x δ1 => rw [q2] at ho; exact fun σ' cls d H' F' P' a => ho σ' cls d H' F' P' (a.sub fun j hj => List.mem_cons_of_mem _ hj)
    | bad => rw [q2] at ho; exact ho
  | some u =>
    rw [q] at ho
    simp only at ho
    obtain ⟨a, ha, n, pa, R'⟩ := R.lend q
    refine h.run σ H F _ _ P D R' ?_
    have at_ : ∀ {σ' : St}, Agree (i :: S) σ σ' → σ'.getD i none = some (.ref a) := fun ag => (ag i List.mem_cons_self).trans ha
    have sub_ : ∀ {σ' : St}, Agree (i :: S) σ σ' → Agree S σ σ' := fun ag => ag.sub fun j hj => List.mem_cons_of_mem _ hj
    cases q2 : f (δ.set i (some u)) with
    | nx δ1 =>
      rw [q2] at ho
      simp only [Out.back] at ho
      intro σ' H' F' P' ag p R1
      cases q3 : backAt i δ1 with
      | none => rw [q3] at ho; exact ho.elim
      | some δ2 =>
        rw [q3] at ho
        have hl := fun b (l : L b) => p.lkeep (W1 := fun _ => False) R' b (.inl l)
        obtain ⟨pa1, R2⟩ := R1.unlend hl n (at_ ag) q3
        exact ho σ' H' F' P' (sub_ ag) (p.unlend pa n pa1) R2
    | bk δ1 =>
      rw [q2] at ho
      simp only [Out.back] at ho
      intro σ' H' F' P' ag p R1
      cases q3 : backAt i δ1 with
      | none => rw [q3] at ho; exact ho.elim
      | some δ2 =>
        rw [q3] at ho
        have hl := fun b (l : L b) => p.lkeep (W1 := fun _ => False) R' b (.inl l)
        obtain ⟨pa1, R2⟩ := R1.unlend hl n (at_ ag) q3
        exact ho σ' H' F' P' (sub_ ag) (p.unlend pa n pa1) R2
    | ct δ1 =>
      rw [q2] at ho
      simp only [Out.back] at ho
      intro σ' H' F' P' ag p R1
      cases q3 : backAt i δ1 with
      | none => rw [q3] at ho; exact ho.elim
      | some δ2 =>
        rw [q3] at ho
        have hl := fun b (l : L b) => p.lkeep (W1 := fun _ => False) R' b (.inl l)
        obtain ⟨pa1, R2⟩ := R1.unlend hl n (at_ ag) q3
        exact ho σ' H' F' P' (sub_ ag) (p.unlend pa n pa1) R2
    | rt r δ1 =>
      rw [q2] at ho
      simp only [Out.back] at ho
      intro σ' v H' F' P' Pr ag p R1 o hn
      cases q3 : backAt i δ1 with
      | none => rw [q3] at ho; exact ho.elim
      | some δ2 =>
        rw [q3] at ho
        have hl := fun b (l : L b) => p.lkeep (W1 := fun _ => False) R' b (.inl l)
        obtain ⟨pa1, R2⟩ := R1.unlend hl n (at_ ag) q3
        have npr : ¬ Pr a := fun z => hn a z ⟨i, pa1⟩
        refine ho σ' v H' F' P' Pr (sub_ ag) ?_ R2 (o.unrelent npr) hn
        refine ⟨p.mono, fun c o q m => p.keep c o q fun z => m ⟨z.1, fun y => z.2 (.inl y)⟩, fun c q => (p.newF c q).imp id fun z => z.imp (fun y => ⟨y.1, fun w => y.2 (.inl w)⟩) id, fun c q => ?_⟩
        by_cases hc : c = a
        · subst hc; exact .inl ⟨⟨i, pa⟩, n⟩
        · exact (p.newW c (q.imp (fun y => ⟨y.1, fun z => z.elim y.2 hc⟩) id)).imp (fun y => ⟨y.1, fun w => y.2 (.inl w)⟩) id
    | ex c x δ1 =>
      rw [q2] at ho
      simp only [Out.back] at ho
      intro σ' cls d H' F' P' ag p R1 hx
      cases q3 : backAt i δ1 with
      | none => rw [q3] at ho; exact ho.elim
      | some δ2 =>
        rw [q3] at ho
        have hl := fun b (l : L b) => p.lkeep (W1 := fun _ => False) R' b (.inl l)
        obtain ⟨pa1, R2⟩ := R1.unlend hl n (at_ ag) q3
        exact ho σ' cls d H' F' P' (sub_ ag) (p.unlend pa n pa1) R2 hx
    | bad => rw [q2] at ho; exact ho⟩
theorem Post.unlendN {a : Addr} {F1 H1 : Hp} {P1 : Nat → Addr → Prop} {Pr : Addr → Prop} (pa : P i a) (n : ¬ L a) (p : Post F H (Wr (fun b => L b ∨ b = a) P) F1 H1 (fun x => Wr (fun b => L b ∨ b = a) P1 x ∨ Pr x)) : Post F H (Wr L P) F1 H1 (fun x => Wr L P1 x ∨ Pr x) := by
  refine ⟨p.mono, fun c o q m => p.keep c o q fun z => m ⟨z.1, fun y => z.2 (.inl y)⟩, fun c q => (p.newF c q).imp id fun z => z.imp (fun y => ⟨y.1, fun w => y.2 (.inl w)⟩) id, fun c q => ?_⟩
  by_cases hc : c = a
  · subst hc; exact .inl ⟨⟨i, pa⟩, n⟩
  · rcases q with q | q
    · exact (p.newW c (.inl ⟨q.1, fun z => z.elim q.2 hc⟩)).imp (fun y => ⟨y.1, fun w => y.2 (.inl w)⟩) id
    · exact (p.newW c (.inr q)).imp (fun y => ⟨y.1, fun w => y.2 (.inl w)⟩) id
theorem mn_lockN {te : TE} {f : Nx} (h : MnN K mg W te f) : MnN K mg W te (lockN i f) where
  ok := fun σ H F L δ P r δ' Q R e k => by
    simp only [lockN] at e
    cases q : (δ.getD i none).bind T.lend with
    | none => rw [q] at e; exact h.ok σ H F L δ P r δ' Q R e k
    | some u =>
      rw [q] at e
      simp only at e
      obtain ⟨a, ha, n, pa, R'⟩ := R.lend q
      rcases q2 : f (δ.set i (some u)) with (_ | ⟨t1, δ1⟩) | ⟨c1, x1, δ1⟩
      · rw [q2] at e; cases e
      · rw [q2] at e
        simp only at e
        cases q3 : backAt i δ1 with
        | none => rw [q3] at e; cases e
        | some δ2 =>
          rw [q3] at e
          cases e
          refine h.ok σ H F _ _ P _ _ Q R' q2 fun v H' F' P' Pr p R1 ow dj => ?_
          have hl := fun b (l : L b) => p.lkeep (W1 := fun _ => False) R' b (.inl l)
          obtain ⟨pa1, R2⟩ := R1.unlend hl n ha q3
          exact k v H' F' P' Pr (p.unlendN pa n) R2 (ow.unrelent fun z => dj a z ⟨i, pa1⟩) dj
      · rw [q2] at e
        simp only at e
        split at e <;> cases e
  ex := fun σ H F L δ P c x δ' Q R e k => by
    simp only [lockN] at e
    cases q : (δ.getD i none).bind T.lend with
    | none => rw [q] at e; exact h.ex σ H F L δ P c x δ' Q R e k
    | some u =>
      rw [q] at e
      simp only at e
      obtain ⟨a, ha, n, pa, R'⟩ := R.lend q
      rcases q2 : f (δ.set i (some u)) with (_ | ⟨t1, δ1⟩) | ⟨c1, x1, δ1⟩
      · rw [q2] at e; cases e
      · rw [q2] at e
        simp only at e
        split at e <;> cases e
      · rw [q2] at e
        simp only at e
        cases q3 : backAt i δ1 with
        | none => rw [q3] at e; cases e
        | some δ2 =>
          rw [q3] at e
          cases e
          refine h.ex σ H F _ _ P _ _ _ Q R' q2 fun cls d H' F' P' p R1 xi => ?_
          have hl := fun b (l : L b) => p.lkeep (W1 := fun _ => False) R' b (.inl l)
          obtain ⟨pa1, R2⟩ := R1.unlend hl n ha q3
          exact k cls d H' F' P' (p.unlend pa n pa1) R2 xi
theorem mn_lockE {te : TE} {f : Ex} (h : MnE K mg W te f) : MnE K mg W te (lockE i f) where
  ok := fun σ H F L δ P r δ' Q R e k => by
    simp only [lockE] at e
    cases q : (δ.getD i none).bind T.lend with
    | none => rw [q] at e; exact h.ok σ H F L δ P r δ' Q R e k
    | some u =>
      rw [q] at e
      simp only at e
      obtain ⟨a, ha, n, pa, R'⟩ := R.lend q
      cases q2 : f (δ.set i (some u)) with
      | ok r1 δ1 =>
        rw [q2] at e
        simp only at e
        cases q3 : backAt i δ1 with
        | none => rw [q3] at e; cases e
        | some δ2 =>
          rw [q3] at e
          cases e
          refine h.ok σ H F _ _ P _ _ Q R' q2 fun v H' F' P' p R1 rs => ?_
          have hl := fun b (l : L b) => p.lkeep (W1 := fun _ => False) R' b (.inl l)
          obtain ⟨pa1, R2⟩ := R1.unlend hl n ha q3
          exact k v H' F' P' (p.unlend pa n pa1) R2 rs
      | ex c x δ1 => rw [q2] at e; simp only at e; split at e <;> cases e
      | bad => rw [q2] at e; cases e
  ex := fun σ H F L δ P c x δ' Q R e k => by
    simp only [lockE] at e
    cases q : (δ.getD i none).bind T.lend with
    | none => rw [q] at e; exact h.ex σ H F L δ P c x δ' Q R e k
    | some u =>
      rw [q] at e
      simp only at e
      obtain ⟨a, ha, n, pa, R'⟩ := R.lend q
      cases q2 : f (δ.set i (some u)) with
      | ok r1 δ1 => rw [q2] at e; simp only at e; split at e <;> cases e
      | ex c1 x1 δ1 =>
        rw [q2] at e
        simp only at e
        cases q3 : backAt i δ1 with
        | none => rw [q3] at e; cases e
        | some δ2 =>
          rw [q3] at e
          cases e
          refine h.ex σ H F _ _ P _ _ _ Q R' q2 fun cls d H' F' P' p R1 hx => ?_
          have hl := fun b (l : L b) => p.lkeep (W1 := fun _ => False) R' b (.inl l)
          obtain ⟨pa1, R2⟩ := R1.unlend hl n ha q3
          exact k cls d H' F' P' (p.unlend pa n pa1) R2 hx
      | bad => rw [q2] at e; cases e
end

/-! ### what loops walk -/
abbrev Ix := Env → Option (List D × Env) ⊕ (Str × D × Env)
structure Wks (K : PySem.W.Frag) (mg : Str → Option Value) (J : It) (l : List D) (I : Hp → Hp → Prop) : Prop where
  stop : ∀ F H, Same F H → I F H → ∀ i, l.length ≤ i → J.stop i H
  go : ∀ F H, Same F H → I F H → ∀ i d, l[i]? = some d → J.go i H
  yld : ∀ F H i d x H', Same F H → I F H → l[i]? = some d → J.yld i H x H' → ∃ F', Grow F H F' H' ∧ Fz K mg F' x d
/-- I stays true whatever the loop's body does -/
def Stays (K : PySem.W.Frag) (mg : Str → Option Value) (L : Addr → Prop) (I : Hp → Hp → Prop) : Prop :=
  ∀ F H σ δ P F' H' W', Rep K mg F H L σ δ P → I F H → Post F H (Wr L P) F' H' W' → I F' H'
structure MnI (K : PySem.W.Frag) (mg : Str → Option Value) (W : WX) (wi : TI) (f : Ix) : Prop where
  ok : ∀ σ H F L δ P l δ' (R : It → Hp → Prop), Rep K mg F H L σ δ P → f δ = .inl (some (l, δ')) →
    (∀ J H' F' P' I, Post F H (Wr L P) F' H' (Wr L P') → Rep K mg F' H' L σ δ' P' → I F' H' → Stays K mg L I → Wks K mg J l I → R J H') → wi σ H R
  ex : ∀ σ H F L δ P c a δ' (R : It → Hp → Prop), Rep K mg F H L σ δ P → f δ = .inr (c, a, δ') →
    (∀ cls d H' F' P', Post F H (Wr L P) F' H' (Wr L P') → Rep K mg F' H' L σ δ' P' → ExcIs K mg F' c a cls d → W cls d σ H') → wi σ H R
structure DI (X : Cx) (W : WX) (tg iter : Expr) (wi : TI) (f : Ix) : Prop where
  pi : PI X tg iter wi
  mn : MnI X.K X.mg W wi f
/-- a list or a tuple: frozen, or lent -/
def ixE (f : Ex) : Ix := fun δ => match f δ with
  | .ok (.d (.list l)) δ1 => .inl (some (l, δ1))
  | .ok (.d (.tuple l)) δ1 => .inl (some (l, δ1))
  | .ok (.sl i) δ1 => (match δ1.getD i none with
    | some (.bor l) => .inl (some (l, δ1))
    | _ => .inl none)
  | .ok _ _ => .inl none
  | .ex c a δ1 => .inr (c, a, δ1)
  | .bad => .inl none
def iSeq (K : PySem.W.Frag) (tl : TE) : TI := fun σ H R => tl σ H fun x H1 => ∃ a, x = .ref a ∧ (((∃ xs, SqL K H1 a xs) ∧ R (Itl K a) H1) ∨ ((∃ xs, SqT K H1 a xs) ∧ R (Itt K a) H1))
open PyProof.Rows in
theorem pi_seq {X : Cx} {tg l : Expr} {tl : TE} (hl : PE X l tl) : PI X tg l (iSeq X.K tl) := ⟨fun pins s σ H R I h => by
  refine thn (hl.run pins s σ H _ I h) fun v s1 ⟨x, H1, I1, r1, a, e, hh⟩ => ?_
  subst e
  obtain rfl : v = Value.ref a := r1
  rcases hh with ⟨⟨xs, hq⟩, q⟩ | ⟨⟨xs, hq⟩, q⟩
  · obtain ⟨its, rv, p, hz⟩ := I1.list hq
    refine wpAny_pyIter_list p.isList ⟨s1.heap.objs.size, [s1.heap.objs.size], _, _, H1, rfl, I1.kept (t' := s1.toks) (fun b o e => Heap.get?_push_of_some _ e), turn_list a _, ⟨_, Heap.get?_push_size _ rfl, rfl, rfl⟩, (fun b hb => ?_), q⟩
    obtain rfl : b = s1.heap.objs.size := by simpa using hb
    exact I1.fpOk (Nat.le_refl _) (I1.hok.fresh (Nat.le_refl _))
  · obtain ⟨its, rv, p, hz⟩ := I1.tuple hq
    refine wpAny_pyIter_tuple (show s1.heap.IsTuple a its.toArray from p) ⟨s1.heap.objs.size, [s1.heap.objs.size], _, _, H1, rfl, I1.kept (t' := s1.toks) (fun b o e => Heap.get?_push_of_some _ e), turn_tuple a _, ⟨_, Heap.get?_push_size _ rfl, rfl, rfl⟩, (fun b hb => ?_), q⟩
    obtain rfl : b = s1.heap.objs.size := by simpa using hb
    exact I1.fpOk (Nat.le_refl _) (I1.hok.fresh (Nat.le_refl _))⟩
def rngD (lo : Int) (n : Nat) : List D := (List.range n).map fun (i : Nat) => PyData.int (lo + (i : Int))
noncomputable def ixR1 (f : Ex) : Ix := fun δ => match f δ with
  | .ok (.d (.int j)) δ1 => cif (-1000000000 ≤ j ∧ j ≤ 1000000000) (.inl (some (rngD 0 j.toNat, δ1))) (.inl none)
  | .ok _ _ => .inl none
  | .ex c a δ1 => .inr (c, a, δ1)
  | .bad => .inl none
noncomputable def ixR2 (f g : Ex) : Ix := fun δ => match evA [f, g] δ with
  | .ok [.d (.int i), .d (.int j)] δ1 => cif (-1000000000 ≤ i ∧ i ≤ 1000000000 ∧ -1000000000 ≤ j ∧ j ≤ 1000000000) (.inl (some (rngD i (j - i).toNat, δ1))) (.inl none)
  | .ok _ _ => .inl none
  | .ex c a δ1 => .inr (c, a, δ1)
  | .bad => .inl none
section
variable {K : PySem.W.Frag} {mg : Str → Option Value} {W : WX} {ta tb : TE} {fa fb : Ex}
theorem wks_list {a : Addr} {vs : List V} {l : List D} {F0 : Hp} (h : FzAll K mg F0 vs l) : Wks K mg (Itl K a) l (fun F H => Same F0 F ∧ H a = some (.lst vs)) where
  stop := fun F H _ ⟨_, h2⟩ i hi => ⟨vs, .inl (.inl h2), by rw [h.len]; exact hi⟩
  go := fun F H _ ⟨_, h2⟩ i d e => by
    obtain ⟨v, h3, _⟩ := h.get e
    exact ⟨vs, v, .inl (.inl h2), h3⟩
  yld := fun F H i d x H' sub ⟨h1, h2⟩ e y => by
    obtain ⟨rfl, y⟩ := y
    obtain ⟨v, h3, h4⟩ := h.get e
    have h5 := y vs (.inl (.inl h2))
    rw [h3] at h5
    cases h5
    exact ⟨F, Grow.refl sub, h4.mono h1⟩
theorem wks_tup {a : Addr} {vs : List V} {l : List D} {F0 : Hp} (hs : SqT K F0 a vs) (h : FzAll K mg F0 vs l) : Wks K mg (Itt K a) l (fun F H => Same F0 F) where
  stop := fun F H sub h1 i hi => ⟨vs, same_sqT (h1.trans sub) hs, by rw [h.len]; exact hi⟩
  go := fun F H sub h1 i d e => by
    obtain ⟨v, h3, _⟩ := h.get e
    exact ⟨vs, v, same_sqT (h1.trans sub) hs, h3⟩
  yld := fun F H i d x H' sub h1 e y => by
    obtain ⟨rfl, y⟩ := y
    obtain ⟨v, h3, h4⟩ := h.get e
    have h5 := y vs (same_sqT (h1.trans sub) hs)
    rw [h3] at h5
    cases h5
    exact ⟨F, Grow.refl sub, h4.mono h1⟩
theorem stays_fz {L : Addr → Prop} {F0 : Hp} : Stays K mg L (fun F _ => Same F0 F) := fun F H σ δ P F' H' W' R h p => h.trans p.mono
theorem stays_list {L : Addr → Prop} {F0 : Hp} {a : Addr} {o : HO} (h0 : F0 a = some o ∨ L a) : Stays K mg L (fun F H => Same F0 F ∧ H a = some o) := fun F H σ δ P F' H' W' R h p => by
  refine ⟨h.1.trans p.mono, p.keep a o h.2 fun z => ?_⟩
  rcases h0 with h0 | h0
  · have := (R.has z.1).2
    rw [h.1 a o h0] at this
    cases this
  · exact z.2 h0
theorem mni_seq (ha : MnE K mg W ta fa) : MnI K mg W (iSeq K ta) (ixE fa) where
  ok := fun σ H F L δ P l δ' R Rp e k => by
    simp only [ixE] at e
    cases q : fa δ with
    | ok r δ1 =>
      rw [q] at e
      refine ha.ok σ H F L δ P r δ1 _ Rp q fun v H1 F1 P1 p R1 rs => ?_
      cases r with
      | d x =>
        cases x with
        | list m =>
          cases e
          cases (show Fz K mg F1 v (.list _) from rs) with
          | lst h1 h2 =>
            rename_i a vs
            exact ⟨a, rfl, .inl ⟨⟨vs, .inl (.inl (R1.sub _ _ h1))⟩, k _ H1 F1 P1 _ p R1 ⟨Same.refl _, R1.sub _ _ h1⟩ (stays_list (.inl h1)) (wks_list h2)⟩⟩
        | tuple m =>
          cases e
          cases (show Fz K mg F1 v (.tuple _) from rs) with
          | tup h1 h2 =>
            rename_i a vs
            exact ⟨a, rfl, .inr ⟨⟨vs, same_sqT R1.sub h1⟩, k _ H1 F1 P1 _ p R1 (Same.refl _) stays_fz (wks_tup h1 h2)⟩⟩
        | _ => cases e
      | sl i =>
        simp only at e
        cases q2 : δ1.getD i none with
        | none => rw [q2] at e; cases e
        | some t =>
          rw [q2] at e
          cases t with
          | bor m =>
            cases e
            obtain ⟨w, h1, a, vs, rfl, h2, h3, h4, h5, h6⟩ := R1.at_ i _ q2
            have hv : σ.getD i none = some v := rs
            rw [h1] at hv
            cases hv
            exact ⟨a, rfl, .inl ⟨⟨vs, .inl (.inl h2)⟩, k _ H1 F1 P1 _ p R1 ⟨Same.refl _, h2⟩ (stays_list (.inr h4)) (wks_list h5)⟩⟩
          | _ => cases e
    | ex c a δ1 => rw [q] at e; cases e
    | bad => rw [q] at e; cases e
  ex := fun σ H F L δ P c a δ' R Rp e k => by
    simp only [ixE] at e
    cases q : fa δ with
    | ok r δ1 =>
      rw [q] at e
      cases r with
      | d x => cases x <;> cases e
      | sl i => simp only at e; split at e <;> cases e
    | ex c1 a1 δ1 => rw [q] at e; cases e; exact ha.ex σ H F L δ P _ _ _ _ Rp q k
    | bad => rw [q] at e; cases e
theorem rngD_len (lo : Int) (n : Nat) : (rngD lo n).length = n := by simp [rngD]
theorem rngD_get {lo : Int} {n i : Nat} {d : D} (e : (rngD lo n)[i]? = some d) : i < n ∧ d = .int (lo + (i : Int)) := by
  have hi : i < n := by have := (List.getElem?_eq_some_iff.mp e).1; rwa [rngD_len] at this
  refine ⟨hi, ?_⟩
  simp only [rngD, List.getElem?_map, List.getElem?_range hi, Option.map_some, Option.some.injEq] at e
  exact e.symm
theorem wks_rng {lo : Int} {n : Nat} : Wks K mg (Itr lo n) (rngD lo n) (fun _ _ => True) where
  stop := fun F H _ _ i hi => by rw [rngD_len] at hi; exact hi
  go := fun F H _ _ i d e => (rngD_get e).1
  yld := fun F H i d x H' sub _ e y => by
    obtain ⟨rfl, rfl⟩ := y
    rw [(rngD_get e).2]
    exact ⟨F, Grow.refl sub, .int _⟩
theorem mni_rng1 (ha : MnE K mg W ta fa) : MnI K mg W (iRng1 (tCons ta tNil)) (ixR1 fa) where
  ok := fun σ H F L δ P l δ' R Rp e k => by
    simp only [ixR1, cif] at e
    cases q : fa δ with
    | ok r δ1 =>
      rw [q] at e
      refine ha.ok σ H F L δ P r δ1 _ Rp q fun v H1 F1 P1 p R1 rs => ?_
      cases r with
      | d x =>
        cases x with
        | int j =>
          simp only at e
          split at e
          · rename_i hj
            cases e
            cases (show Fz K mg F1 v (.int j) from rs)
            exact ⟨j, rfl, by omega, by omega, k _ H1 F1 P1 _ p R1 True.intro (fun _ _ _ _ _ _ _ _ _ _ _ => True.intro) wks_rng⟩
          · cases e
        | _ => cases e
      | sl i => cases e
    | ex c a δ1 => rw [q] at e; cases e
    | bad => rw [q] at e; cases e
  ex := fun σ H F L δ P c a δ' R Rp e k => by
    simp only [ixR1, cif] at e
    cases q : fa δ with
    | ok r δ1 =>
      rw [q] at e
      cases r with
      | d x => cases x <;> first | (simp only at e; split at e <;> cases e) | cases e
      | sl i => cases e
    | ex c1 a1 δ1 => rw [q] at e; cases e; exact ha.ex σ H F L δ P _ _ _ _ Rp q k
    | bad => rw [q] at e; cases e
theorem mni_rng2 {t : TA} (ha : MnA K mg W t (evA [fa, fb])) : MnI K mg W (iRng2 t) (ixR2 fa fb) where
  ok := fun σ H F L δ P l δ' R Rp e k => by
    simp only [ixR2, cif] at e
    cases q : evA [fa, fb] δ with
    | ok r δ1 =>
      rw [q] at e
      refine ha.ok σ H F L δ P r δ1 _ Rp q fun v H1 F1 P1 p R1 rs => ?_
      split at e
      · rename_i i j δ2 hh
        cases hh
        split at e
        · rename_i hj
          cases e
          cases v with
          | nil => exact rs.elim
          | cons v1 v2 =>
            obtain ⟨r1, rs⟩ := rs
            cases (show Fz K mg F1 v1 (.int i) from r1)
            cases v2 with
            | nil => exact rs.elim
            | cons v2 v3 =>
              obtain ⟨r2, rs⟩ := rs
              cases (show Fz K mg F1 v2 (.int j) from r2)
              cases v3 with
              | nil => exact ⟨i, j, rfl, ⟨by omega, by omega, by omega, by omega⟩, k _ H1 F1 P1 _ p R1 True.intro (fun _ _ _ _ _ _ _ _ _ _ _ => True.intro) wks_rng⟩
              | cons _ _ => exact rs.elim
        · cases e
      · cases e
      · rename_i hh; cases hh
      · rename_i hh; cases hh
    | ex c a δ1 => rw [q] at e; cases e
    | bad => rw [q] at e; cases e
  ex := fun σ H F L δ P c a δ' R Rp e k => by
    simp only [ixR2, cif] at e
    cases q : evA [fa, fb] δ with
    | ok r δ1 =>
      rw [q] at e
      split at e
      · split at e <;> cases e
      · cases e
      · rename_i hh; cases hh
      · cases e
    | ex c1 a1 δ1 => rw [q] at e; cases e; exact ha.ex σ H F L δ P _ _ _ _ Rp q k
    | bad => rw [q] at e; cases e
end

/-! ### for -/
def forL (t : Tgt) (b : Sx) : List D → Sx
  | [], δ => .nx δ
  | x :: l, δ => match asgT t x δ with
    | none => .bad
    | some δ1 => (match b δ1 with
      | .nx δ2 => forL t b l δ2
      | .ct δ2 => forL t b l δ2
      | .bk δ2 => .nx δ2
      | o => o)
def forS (t : Tgt) (f : Ix) (b : Sx) : Sx := fun δ => match f δ with
  | .inl (some (l, δ1)) => forL t b l δ1
  | .inl none => .bad
  | .inr (c, a, δ1) => .ex c a δ1
section
variable {K : PySem.W.Frag} {mg : Str → Option Value} {W : WX} {S : List Nat} {wi : TI} {g : TG} {tb : TS} {f : Ix} {b : Sx} {t : Tgt}
theorem mn_forS (hi : MnI K mg W wi f) (hg : MnG K mg S g t) (hb : MnS K mg W S tb b) : MnS K mg W S (tFor wi g tb) (forS t f b) := ⟨fun σ0 H0 F0 L δ0 P0 D R0 ho => by
  simp only [forS] at ho
  cases q : f δ0 with
  | inr p =>
    obtain ⟨c, a, δ1⟩ := p
    rw [q] at ho
    exact hi.ex σ0 H0 F0 L δ0 P0 c a δ1 _ R0 q fun cls d H1 F1 P1 p1 R1 x => ho σ0 cls d H1 F1 P1 Agree.refl p1 R1 x
  | inl o =>
    cases o with
    | none => rw [q] at ho; exact ho.elim
    | some p =>
      obtain ⟨l, δ1⟩ := p
      rw [q] at ho
      simp only at ho
      refine hi.ok σ0 H0 F0 L δ0 P0 l δ1 _ R0 q fun J H1 F1 P1 I p1 R1 i1 st wk => ?_
      generalize ho' : forL t b l δ1 = o at ho
      refine ⟨fun i m σ H => m = l.length - i ∧ i ≤ l.length ∧ ∃ F P δ, Agree S σ0 σ ∧ Post F0 H0 (Wr L P0) F H (Wr L P) ∧ Rep K mg F H L σ δ P ∧ I F H ∧ forL t b (l.drop i) δ = o, ⟨l.length, by simp, Nat.zero_le _, F1, P1, δ1, Agree.refl, p1, R1, i1, by rw [List.drop_zero]; exact ho'⟩, ?_⟩
      rintro i m σ H ⟨rfl, hil, F, P, δ, ag, p, R, ih, e⟩
      by_cases hlt : i < l.length
      · right
        have hd : l.drop i = l[i] :: l.drop (i + 1) := List.drop_eq_getElem_cons hlt
        have hg1 : l[i]? = some l[i] := List.getElem?_eq_getElem hlt
        rw [hd] at e
        simp only [forL] at e
        refine ⟨wk.go F H R.sub ih i _ hg1, fun σ' H' => ∃ F' P' δ', Agree S σ0 σ' ∧ Post F0 H0 (Wr L P0) F' H' (Wr L P') ∧ Rep K mg F' H' L σ' δ' P' ∧ I F' H' ∧ forL t b (l.drop (i + 1)) δ' = o, fun σ' H' ⟨F', P', δ', h1, h2, h3, h4, h5⟩ => ⟨l.length - (i + 1), by omega, rfl, hlt, F', P', δ', h1, h2, h3, h4, h5⟩, fun x H' y => ?_⟩
        obtain ⟨F2, gr, hz⟩ := wk.yld F H i _ x H' R.sub ih hg1 y
        have R2 := R.grow gr
        have p2 := p.trans gr.post
        have ih2 : I F2 H' := st F H σ δ P F2 H' _ R ih gr.post
        cases q2 : asgT t l[i] δ with
        | none => rw [q2] at e; subst e; exact ho.elim
        | some δ2 =>
          rw [q2] at e
          simp only at e
          refine hg.run σ H' F2 L δ P x _ δ2 _ R2 hz q2 fun σ3 P3 ag3 p3 R3 => ?_
          have ih3 : I F2 H' := ih2
          refine hb.run σ3 H' F2 L δ2 P3 _ R3 ?_
          have goN : ∀ δ3, forL t b (l.drop (i + 1)) δ3 = o → ∀ σ' H'' F' P', Agree S σ3 σ' → Post F2 H' (Wr L P3) F' H'' (Wr L P') → Rep K mg F' H'' L σ' δ3 P' →
              ∃ F' P' δ', Agree S σ0 σ' ∧ Post F0 H0 (Wr L P0) F' H'' (Wr L P') ∧ Rep K mg F' H'' L σ' δ' P' ∧ I F' H'' ∧ forL t b (l.drop (i + 1)) δ' = o := fun δ3 e3 σ' H'' F' P' a' p' R' =>
            ⟨F', P', δ3, (ag.trans ag3).trans a', (p2.trans p3).trans p', R', st F2 H' σ3 δ2 P3 F' H'' _ R3 ih3 p', e3⟩
          have later : ∀ o2, OutOk K mg W S F0 H0 L P0 σ0 D o2 → OutOk K mg W S F2 H' L P3 σ3 D o2 := fun o2 h => OutOk.later h (ag.trans ag3) (p2.trans p3)
          cases q3 : b δ2 with
          | nx δ3 => rw [q3] at e; exact goN δ3 e
          | ct δ3 => rw [q3] at e; exact goN δ3 e
          | bk δ3 => rw [q3] at e; subst e; exact later _ ho
          | rt r δ3 => rw [q3] at e; subst e; exact later _ ho
          | ex c a δ3 => rw [q3] at e; subst e; exact later _ ho
          | bad => rw [q3] at e; subst e; exact ho.elim
      · left
        have hi2 : i = l.length := by omega
        subst hi2
        rw [List.drop_length] at e
        simp only [forL] at e
        subst e
        exact ⟨wk.stop F H R.sub ih _ (Nat.le_refl _), ho σ H F P ag p R⟩⟩
end

/-! ### while -/
def whlN (c : Ex) (b : Sx) : Nat → Sx
  | 0, _ => .bad
  | n + 1, δ => (c δ).out fun r δ1 => match r with
    | .d (.bool true) => (match b δ1 with
      | .nx δ2 => whlN c b n δ2
      | .ct δ2 => whlN c b n δ2
      | .bk δ2 => .nx δ2
      | o => o)
    | .d (.bool false) => .nx δ1
    | _ => .bad
open Classical in
noncomputable def whlS (c : Ex) (b : Sx) : Sx := fun δ => if h : ∃ n, whlN c b n δ ≠ .bad then whlN c b h.choose δ else .bad
theorem whlN_more {c : Ex} {b : Sx} : ∀ {n : Nat} {δ : Env}, whlN c b n δ ≠ .bad → whlN c b (n + 1) δ = whlN c b n δ
  | 0, δ, h => absurd rfl h
  | n + 1, δ, h => by
    have ih := fun δ => @whlN_more c b n δ
    rw [whlN] at h ⊢
    conv => rhs; rw [whlN]
    cases q : c δ with
    | ok r δ1 =>
      rw [q] at h
      simp only [Re.out] at h ⊢
      split
      · simp only at h
        cases q2 : b δ1 with
        | nx δ2 => rw [q2] at h; exact ih δ2 h
        | ct δ2 => rw [q2] at h; exact ih δ2 h
        | _ => rfl
      · rfl
      · rfl
    | _ => rfl
theorem whlN_le {c : Ex} {b : Sx} {n m : Nat} {δ : Env} (h : whlN c b n δ ≠ .bad) (hm : n ≤ m) : whlN c b m δ = whlN c b n δ := by
  induction m with
  | zero => have : n = 0 := by omega
            subst this; rfl
  | succ m ih =>
    by_cases e : n = m + 1
    · rw [e]
    · have := ih (by omega)
      rw [whlN_more (by rw [this]; exact h), this]
theorem whlS_of {c : Ex} {b : Sx} {n : Nat} {δ : Env} {o : Out} (h : whlN c b n δ = o) (ho : o ≠ .bad) : whlS c b δ = o := by
  have hx : ∃ n, whlN c b n δ ≠ .bad := ⟨n, by rw [h]; exact ho⟩
  unfold whlS
  rw [dif_pos hx]
  have h1 := hx.choose_spec
  rcases Nat.le_total n hx.choose with l | l
  · rw [whlN_le (by rw [h]; exact ho) l, h]
  · rw [← whlN_le h1 l, h]
theorem whlS_some {c : Ex} {b : Sx} {δ : Env} {o : Out} (h : whlS c b δ = o) (ho : o ≠ .bad) : ∃ n, whlN c b n δ = o := by
  unfold whlS at h
  split at h
  · exact ⟨_, h⟩
  · exact absurd h.symm ho
section
variable {K : PySem.W.Frag} {mg : Str → Option Value} {W : WX} {S : List Nat} {tc : TT} {tb : TS} {c : Ex} {b : Sx}
theorem mn_whlS (hc : MnT K mg W tc c) (hb : MnS K mg W S tb b) : MnS K mg W S (tWhile tc tb) (whlS c b) := ⟨fun σ0 H0 F0 L δ0 P0 D R0 ho => by
  generalize ho' : whlS c b δ0 = o at ho
  have nb : o ≠ .bad := fun e => by rw [e] at ho; exact ho.elim
  obtain ⟨n0, hn⟩ := whlS_some ho' nb
  refine ⟨fun m σ H => ∃ F P δ, Agree S σ0 σ ∧ Post F0 H0 (Wr L P0) F H (Wr L P) ∧ Rep K mg F H L σ δ P ∧ whlN c b m δ = o, ⟨n0, F0, P0, δ0, Agree.refl, Post.refl, R0, hn⟩, ?_⟩
  rintro m σ H ⟨F, P, δ, ag, p, R, e⟩
  cases m with
  | zero => exact absurd e.symm nb
  | succ m =>
    rw [whlN] at e
    have later : ∀ {F1 H1 P1 σ1} o2, Agree S σ σ1 → Post F H (Wr L P) F1 H1 (Wr L P1) → OutOk K mg W S F0 H0 L P0 σ0 D o2 → OutOk K mg W S F1 H1 L P1 σ1 D o2 := fun o2 a q h => OutOk.later h (ag.trans a) (p.trans q)
    cases q : c δ with
    | ok r δ1 =>
      rw [q] at e
      simp only [Re.out] at e
      split at e
      · refine hc.ok σ H F L δ P true δ1 _ R q fun H1 F1 P1 p1 R1 => ?_
        rw [if_pos rfl]
        refine ⟨fun σ' H' => ∃ F' P' δ', Agree S σ0 σ' ∧ Post F0 H0 (Wr L P0) F' H' (Wr L P') ∧ Rep K mg F' H' L σ' δ' P' ∧ whlN c b m δ' = o, fun σ' H' h => ⟨m, Nat.lt_succ_self _, h⟩, ?_⟩
        refine hb.run σ H1 F1 L δ1 P1 _ R1 ?_
        cases q3 : b δ1 with
        | nx δ3 => rw [q3] at e; exact fun σ' H'' F' P' a' p' R' => ⟨F', P', δ3, ag.trans a', (p.trans p1).trans p', R', e⟩
        | ct δ3 => rw [q3] at e; exact fun σ' H'' F' P' a' p' R' => ⟨F', P', δ3, ag.trans a', (p.trans p1).trans p', R', e⟩
        | bk δ3 => rw [q3] at e; subst e; exact later _ Agree.refl p1 ho
        | rt r δ3 => rw [q3] at e; subst e; exact later _ Agree.refl p1 ho
        | ex c a δ3 => rw [q3] at e; subst e; exact later _ Agree.refl p1 ho
        | bad => rw [q3] at e; subst e; exact ho.elim
      · refine hc.ok σ H F L δ P false δ1 _ R q fun H1 F1 P1 p1 R1 => ?_
        rw [if_neg Bool.false_ne_true]
        subst e
        exact ho σ H1 F1 P1 ag (p.trans p1) R1
      · exact absurd e.symm nb
    | ex cc a δ1 =>
      rw [q] at e
      subst e
      exact hc.ex σ H F L δ P _ _ _ _ R q fun cls d H1 F1 P1 p1 R1 x => ho σ cls d H1 F1 P1 ag (p.trans p1) R1 x
    | bad => rw [q] at e; exact absurd e.symm nb⟩
end
/-! ### rules -/
section
variable {X : Cx} {W : WX} {S : List Nat} {tg iter e a c : Expr} {body : List Stmt} {st : Stmt} {wi : TI} {g : TG} {f : Ix} {b : Sx} {t : Tgt} {ta tb : TE} {fa fb fc : Ex} {tt : TT} {pos p : Pos}
theorem di_seq (ha : DE X W e ta fa) : DI X W tg e (iSeq X.K ta) (ixE fa) := ⟨pi_seq ha.pe, mni_seq ha.mn⟩
theorem di_rng1 (ha : DE X W a ta fa) (hm : X.mg "range" = none) (hg : Gl X "range" := by rfl) (hn : starEach [a] X.env = (false, eval a X.env) :: starEach [] X.env := by rfl) (hs : starEach [a] X.env = [(false, eval a X.env)] := by rfl) :
    DI X W tg (.Call (.Name "range" p) [a] [] pos) (iRng1 (tCons ta tNil)) (ixR1 fa) := ⟨pi_range1 hg hm (pa_cons ha.pe pa_nil hn) hs, mni_rng1 ha.mn⟩
theorem di_rng2 {tl : TA} {a2 : Expr} (ha : DA X W [a, a2] tl (evA [fa, fb])) (hm : X.mg "range" = none) (hg : Gl X "range" := by rfl) (hs : starEach [a, a2] X.env = [(false, eval a X.env), (false, eval a2 X.env)] := by rfl) (hs2 : starEach [a2] X.env = [(false, eval a2 X.env)] := by rfl) :
    DI X W tg (.Call (.Name "range" p) [a, a2] [] pos) (iRng2 tl) (ixR2 fa fb) := ⟨pi_range2 hg hm ha.pe hs hs2, mni_rng2 ha.mn⟩
theorem ds_for (hp : PassesOwn (model X.prog X.w) X.A X.env X.xe) (hc : X.calm = true) (hi : DI X W tg iter wi f) (hg : DG X S tg g t) (hb : DSs X W S body b) (hs : ∀ x, foldedSetIterable iter X.env x = pure x := by intro _; rfl) :
    DS X W S (.For tg iter body [] pos) (forS t f b) := let ⟨_, b1, b2⟩ := hb; ⟨_, ps_for hp hc hi.pi hg.pg b1 hs, mn_forS hi.mn hg.mn b2⟩
theorem ds_while (hp : PassesOwn (model X.prog X.w) X.A X.env X.xe) (hc : DT X W c tt fc) (hb : DSs X W S body b) : DS X W S (.While c body [] pos) (whlS fc b) := let ⟨_, b1, b2⟩ := hb; ⟨_, ps_while hp hc.pe b1, mn_whlS hc.mn b2⟩
theorem ds_lock (i : Nat) {s : Sx} (h : DS X W (i :: S) st s) : DS X W S st (lockS i s) := let ⟨_, h1, h2⟩ := h; ⟨_, h1, mn_lockS h2⟩
theorem dn_lock (i : Nat) {fn : Nx} (h : DN X W e ta fn) : DN X W e ta (lockN i fn) := ⟨h.pe, mn_lockN h.mn⟩
theorem de_lock (i : Nat) (h : DE X W e ta fa) : DE X W e ta (lockE i fa) := ⟨h.pe, mn_lockE h.mn⟩
end
end Dl

/-! DlH: defs: what a def gives for what it is handed (Fo), its promise (spD), its call. -/
namespace Dl
open PySem L2

inductive Fo where
  | ret (r : T) (us : List (Option T)) | ex (c : Str) (a : D) (us : List (Option T)) | bad
/-- what the handed parameter i holds at the end -/
def uAt : List Nat → List (Option T) → Nat → Option T
  | j :: S, u :: us, i => if j = i then u else uAt S us i
  | _, _, _ => none
theorem uAt_map {g : Nat → Option T} {i : Nat} : ∀ {S : List Nat}, uAt S (S.map g) i = if i ∈ S then g i else none
  | [] => rfl
  | j :: S => by
    rw [List.map_cons, uAt, uAt_map (S := S)]
    by_cases h : j = i
    · subst h; simp
    · have h' : ¬ i = j := fun e => h e.symm
      simp [h, h']
def okT : Option T → Bool
  | some (.bor _) => false
  | some (.bdk _) => false
  | some (.bdt _) => false
  | _ => true
def endF (S : List Nat) (δ : Env) (f : List (Option T) → Fo) : Fo := if S.all (fun i => okT (δ.getD i none)) then f (S.map fun i => δ.getD i none) else .bad
/-- n parameters, N names, the handed ones S -/
def fnM (n N : Nat) (S : List Nat) (b : Sx) : List T → Fo := fun ts => if ts.length = n then (match b (ts.map some ++ List.replicate (N - n) none) with
    | .nx δ => endF S δ (.ret (.d .none))
    | .rt r δ => endF S δ (.ret r)
    | .ex c a δ => endF S δ (.ex c a)
    | _ => .bad) else .bad

section
variable (K : PySem.W.Frag) (mg : Str → Option Value)
def Lx (F H : Hp) (S : List Nat) (P : Nat → Addr → Prop) : Addr → Prop := fun a => H a ≠ none ∧ F a = none ∧ ∀ i ∈ S, ¬ P i a
def Hd (S : List Nat) (P : Nat → Addr → Prop) : Addr → Prop := fun a => ∃ i ∈ S, P i a
structure ArgsOk (F H : Hp) (S : List Nat) (vs : List V) (ts : List T) (P : Nat → Addr → Prop) : Prop where
  sub : Same F H
  len : vs.length = ts.length
  at_ : ∀ i t, ts[i]? = some t → ∃ v, vs[i]? = some v ∧ Ow K mg F H (Lx F H S P) v t (P i)
  no : ∀ i a, P i a → i < ts.length
  dj : ∀ i j a, P i a → P j a → i = j
structure BackOk (S : List Nat) (F' H' : Hp) (L : Addr → Prop) (vs : List V) (us : List (Option T)) (P' : Nat → Addr → Prop) : Prop where
  sub : Same F' H'
  at_ : ∀ i t, uAt S us i = some t → ∃ v, vs[i]? = some v ∧ Ow K mg F' H' L v t (P' i)
  no : ∀ i a, P' i a → i ∈ S ∧ ∃ t, uAt S us i = some t
  dj : ∀ i j a, P' i a → P' j a → i = j
def FoOk (S : List Nat) (F H : Hp) (P : Nat → Addr → Prop) (vs : List V) (Q : VK) (E : XK) : Fo → Prop
  | .ret r us => ∀ v H' F' P' Pr, Post F H (Hd S P) F' H' (fun a => U P' a ∨ Pr a) → BackOk K mg S F' H' (Lx F H S P) vs us P' → Ow K mg F' H' (Lx F H S P) v r Pr → (∀ a, Pr a → ¬ U P' a) → Q v H'
  | .ex c x us => ∀ cls d H' F' P', Post F H (Hd S P) F' H' (U P') → BackOk K mg S F' H' (Lx F H S P) vs us P' → ExcIs K mg F' c x cls d → E cls d H'
  | .bad => False
def spD (n : Nat) (S : List Nat) (m : List T → Fo) : Sp := fun vs H Q E => vs.length = n ∧ ∃ F ts P, ArgsOk K mg F H S vs ts P ∧ FoOk K mg S F H P vs Q E (m ts)
end

/-- a def under guards that are known -/
structure FnG (P : Program) (w : World) (K : PySem.W.Frag) (mg : Str → Option Value) (base : Heap) (k : Nat) (f : Addr) (fd : FuncData) (ps : List Str) (sp : Sp) : Prop where
  wide : ∀ {vs : List V} {H : Hp} {Q : VK} {E : XK}, sp vs H Q E → vs.length = ps.length
  go : ∀ {A : Around} {out : List PySem.Env} {s : Shared} {H : Hp} {ar : Args} {us : List Value} {vs : List V} {Q : VK} {E : XK}, Room k A → A.guards = some [] → Env0 P w K mg base A out s H →
    BindsTo s fd ar (ps.zip us) → Vals vs us → sp vs H Q E → codeAny (model P w) A (.call (.ref f) ar) (CR (L2.CX P w) out P w H s Q E) s
section
variable {P : Program} {w : World} {K : PySem.W.Frag} {mg : Str → Option Value} {base : Heap} {k n : Nat} {f : Addr} {fd : FuncData} {ps N : List Str} {sp : Sp} {x qual : Str} {st : Stmt} {S : List Nat} {m : List T → Fo}
theorem FnG.up {j : Nat} (g : FnG P w K mg base j f fd ps sp) (h : j ≤ k) : FnG P w K mg base k f fd ps sp := ⟨g.wide, fun r => g.go (r.mono h)⟩
/-- the body's context -/
abbrev bodyX (P : Program) (w : World) (K : PySem.W.Frag) (mg : Str → Option Value) (base : Heap) (N : List Str) (qual : Str) (st : Stmt) (f : Addr) (cdv : Value) (A : Around) (out : List PySem.Env) (s : Shared) (H : Hp) (E : XK) : Cx :=
  cxOf (L2.CX P w) P w K mg base N qual (defScope st) f cdv A out s H E
/-- a def of the text, by its body -/
theorem fnG_of (F : Fun K x qual st f fd) (sc : FnScope N ps (defScope st)) (wide : ∀ {vs : List V} {H : Hp} {Q : VK} {E : XK}, sp vs H Q E → vs.length = ps.length)
    (body : ∀ (cdv : Value) (A : Around) (out : List PySem.Env) (s : Shared) (H : Hp) (vs : List V) (Q : VK) (E : XK), Ctx (bodyX P w K mg base N qual st f cdv A out s H E) k → sp vs H Q E →
      ∃ t, PSs (bodyX P w K mg base N qual st f cdv A out s H E) (defBody st) t ∧ t { nx := fun _ H' => Q .non H', rt := Q } (L2.start N vs) H) : FnG P w K mg base (k + 1) f fd ps sp := by
  obtain ⟨oc, od, kV, dc, pm, an, cdv, ct, sl, rfl, at_, code⟩ := F.ex
  refine ⟨wide, @fun A out s H ar us vs Q E room grd env bind vals prom => ?_⟩
  have wd : vs.length = ps.length := wide prom
  have inK : K.In s.heap := env.mod.kin.keeps fun b o q => (env.bs b o q).1
  have noL : s.heap.NoLimit := env.mod.nolimit.keeps fun b o q => (env.bs b o q).1
  have kinds : ∀ p ∈ ps.zip us, (defScope st).names.lookup p.1 = some .local ∨ ((defScope st).names.lookup p.1 = some .cell ∧ ((cellsFrom (s.heap.objs.size + 1) (defScope st).names []).lookup p.1).isSome = true) := by
    rintro ⟨y, u⟩ hp
    have := sc.par y (List.of_mem_zip hp).1
    exact this.imp id fun q => ⟨q, PySem.W.cellsFrom_some _ _ _ (.inl q)⟩
  refine codeAny_call_function (room.depth) (inK _ _ at_) rfl (sc.co) (sc.gen) rfl (PySem.W.codeRec_of inK code) (bind _ _ _ _ (wpAny_newFunctionEnv_cells sc.kind kinds ?_))
  rintro _ rfl s1 laid
  refine ⟨noL.keeps laid.toInCall.keep, codeAny_func ?_⟩
  obtain ⟨t, pt, run⟩ := body cdv A out s H vs Q E ⟨⟨(room.deeper _).dp, (room.deeper _).un, grd⟩, rfl, room.hd⟩ prom
  refine wpAny_mono (pt.run [] s1 (L2.start N vs) H _ (inv_start sc room.hd env wd vals laid) run) ?_ fun _ _ z => z
  intro fl s2 e2
  cases fl with
  | next => obtain ⟨_, H2, J, q⟩ := e2; exact ⟨.non, H2, J.os, J.bare, J.base, J.hok, rfl, q⟩
  | ret u => obtain ⟨v, _, H2, J, rel, q⟩ := e2; exact ⟨v, H2, J.os, J.bare, J.base, J.hok, rel, q⟩
  | brk => exact e2.choose_spec.choose_spec.2.elim
  | cont => exact e2.choose_spec.choose_spec.2.elim
/-- a def x of the module means m -/
structure FnD (P : Program) (w : World) (K : PySem.W.Frag) (mg : Str → Option Value) (base : Heap) (x : Str) (k n : Nat) (S : List Nat) (m : List T → Fo) : Prop where
  ex : ∃ f fd ps, mg x = some (.ref f) ∧ PySem.W.keepIn K (.ref f) = true ∧ ps.length = n ∧ Binds K fd ps [] ∧ FnG P w K mg base k f fd ps (spD K mg n S m)
theorem FnD.up {j : Nat} (g : FnD P w K mg base x j n S m) (h : j ≤ k) : FnD P w K mg base x k n S m := let ⟨f, fd, ps, a, b, c, d, e⟩ := g.ex; ⟨f, fd, ps, a, b, c, d, e.up h⟩

theorem start_at {vs : List V} {i : Nat} {v : V} (h : (L2.start N vs).getD i none = some v) : vs[i]? = some v := by
  have q := getD_some h
  unfold L2.start at q
  by_cases hi : i < vs.length
  · rw [List.getElem?_append_left (by simpa using hi), List.getElem?_map] at q
    cases e : vs[i]? with
    | none => rw [e] at q; cases q
    | some u => rw [e] at q; cases q; rfl
  · rw [List.getElem?_append_right (by simpa using hi), List.getElem?_replicate] at q
    split at q <;> cases q
theorem at_start {vs : List V} {i : Nat} {v : V} (h : vs[i]? = some v) : (L2.start N vs).getD i none = some v := by
  have hi := (List.getElem?_eq_some_iff.mp h).1
  refine some_getD ?_
  unfold L2.start
  rw [List.getElem?_append_left (by simpa using hi), List.getElem?_map, h]
  rfl
/-- the slots at the entry -/
theorem ArgsOk.rep {F H : Hp} {vs : List V} {ts : List T} {Ps : Nat → Addr → Prop} (a : ArgsOk K mg F H S vs ts Ps) : Rep K mg F H (Lx F H S Ps) (L2.start N vs) (ts.map some ++ List.replicate (N.length - ts.length) none) Ps := by
  have at1 : ∀ {i : Nat} {t : T}, (ts.map some ++ List.replicate (N.length - ts.length) none).getD i none = some t → ts[i]? = some t := fun {i t} e => by
    have q := getD_some e
    by_cases hi : i < ts.length
    · rw [List.getElem?_append_left (by simpa using hi), List.getElem?_map] at q
      cases e : ts[i]? with
      | none => rw [e] at q; cases q
      | some u => rw [e] at q; cases q; rfl
    · rw [List.getElem?_append_right (by simpa using hi), List.getElem?_replicate] at q
      split at q <;> cases q
  refine ⟨a.sub, ?_, fun i t e => ?_, fun i b p => ?_, a.dj, fun b l => ⟨l.1, l.2.1⟩⟩
  · unfold L2.start
    simp [a.len]
  · obtain ⟨v, h1, h2⟩ := a.at_ i t (at1 e)
    exact ⟨v, at_start h1, h2⟩
  · have hi := a.no i b p
    refine ⟨ts[i], some_getD ?_⟩
    rw [List.getElem?_append_left (by simpa using hi), List.getElem?_map, List.getElem?_eq_getElem hi]
    rfl
theorem ArgsOk.wr {F H : Hp} {vs : List V} {ts : List T} {Ps : Nat → Addr → Prop} (a : ArgsOk K mg F H S vs ts Ps) : Wr (Lx F H S Ps) Ps = Hd S Ps := by
  funext b
  refine propext ⟨fun ⟨⟨i, p⟩, n⟩ => ?_, fun ⟨i, hi, p⟩ => ⟨⟨i, p⟩, fun z => z.2.2 i hi p⟩⟩
  obtain ⟨v, _, o⟩ := a.at_ i _ (List.getElem?_eq_getElem (a.no i b p))
  obtain ⟨h1, h2⟩ := o.has p
  exact Classical.byContradiction fun z => n ⟨h1, h2, fun j hj q => z ⟨j, hj, q⟩⟩
def keepS (S : List Nat) (P : Nat → Addr → Prop) : Nat → Addr → Prop := fun i a => i ∈ S ∧ P i a
theorem Rep.backOk {F' H' : Hp} {L : Addr → Prop} {vs : List V} {σ' : St} {δ' : Env} {P' : Nat → Addr → Prop} (R : Rep K mg F' H' L σ' δ' P') (ag : Agree S (L2.start N vs) σ') : BackOk K mg S F' H' L vs (S.map fun i => δ'.getD i none) (keepS S P') := by
  refine ⟨R.sub, fun i t e => ?_, fun i a p => ⟨p.1, ?_⟩, fun i j a p q => R.dj i j a p.2 q.2⟩
  · rw [uAt_map] at e
    by_cases hi : i ∈ S
    · rw [if_pos hi] at e
      obtain ⟨v, h1, h2⟩ := R.at_ i t e
      refine ⟨v, start_at ((ag i hi).symm.trans h1), ?_⟩
      have : keepS S P' i = P' i := by funext b; exact propext ⟨fun z => z.2, fun z => ⟨hi, z⟩⟩
      rw [this]; exact h2
    · rw [if_neg hi] at e; cases e
  · obtain ⟨t, e⟩ := R.no i a p.2
    exact ⟨t, by rw [uAt_map, if_pos p.1]; exact e⟩
/-- what a handed slot holds at the end is not lent -/
theorem Rep.keepWr {F' H' : Hp} {L : Addr → Prop} {σ' : St} {δ' : Env} {P' : Nat → Addr → Prop} (R : Rep K mg F' H' L σ' δ' P') (ok : S.all (fun i => okT (δ'.getD i none)) = true) {a : Addr} (h : U (keepS S P') a) : Wr L P' a := by
  obtain ⟨i, hi, p⟩ := h
  refine ⟨⟨i, p⟩, ?_⟩
  obtain ⟨t, e⟩ := R.no i a p
  obtain ⟨v, _, o⟩ := R.at_ i t e
  have z := (List.all_eq_true.mp ok) i hi
  rw [e] at z
  cases t with
  | d x => exact absurd p (o.2 a)
  | own l => obtain ⟨b, vs, _, _, _, n, _, h5⟩ := o; rw [(h5 a).mp p]; exact n
  | odk l => obtain ⟨b, vs, _, _, _, n, _, _, h5⟩ := o; rw [(h5 a).mp p]; exact n
  | odt l => obtain ⟨b, vs, _, _, _, n, _, _, h5⟩ := o; rw [(h5 a).mp p]; exact n
  | bor l => cases z
  | bdk l => cases z
  | bdt l => cases z
theorem spD_body {X : Cx} {W : WX} {E : XK} {b : Sx} {body : List Stmt} {vs : List V} {H : Hp} {Q : VK} (hK : X.K = K) (hmg : X.mg = mg) (hW : W = fun cls d _ H => E cls d H) (ds : DSs X W S body b)
    (h : spD K mg n S (fnM n N.length S b) vs H Q E) : ∃ t, PSs X body t ∧ t { nx := fun _ H' => Q .non H', rt := Q } (L2.start N vs) H := by
  subst hK hmg hW
  obtain ⟨t, pt, mn⟩ := ds
  refine ⟨t, pt, ?_⟩
  obtain ⟨ln, F, ts, Ps, ar, ok⟩ := h
  have lt : ts.length = n := ar.len.symm.trans ln
  unfold fnM at ok
  rw [if_pos lt] at ok
  have R := ar.rep (N := N)
  rw [lt] at R
  refine mn.run _ H F _ _ Ps _ R ?_
  have fin : ∀ {δ' : Env} {k : List (Option T) → Fo}, FoOk X.K X.mg S F H Ps vs Q E (endF S δ' k) → S.all (fun i => okT (δ'.getD i none)) = true ∧ FoOk X.K X.mg S F H Ps vs Q E (k (S.map fun i => δ'.getD i none)) := fun {δ' k} z => by
    unfold endF at z
    split at z
    · rename_i c; exact ⟨c, z⟩
    · exact z.elim
  have wr := ar.wr
  cases q : b (ts.map some ++ List.replicate (N.length - n) none) with
  | nx δ' =>
    rw [q] at ok
    obtain ⟨c, ok⟩ := fin ok
    intro σ' H' F' P' ag po R'
    refine ok .non H' F' (keepS S P') (fun _ => False) ?_ (R'.backOk ag) ⟨.non, fun _ z => z⟩ fun _ z => z.elim
    rw [wr] at po
    exact po.weak fun a z => z.elim (R'.keepWr c) fun y => y.elim
  | rt r δ' =>
    rw [q] at ok
    obtain ⟨c, ok⟩ := fin ok
    intro σ' v H' F' P' Pr ag po R' o dj
    refine ok v H' F' (keepS S P') Pr ?_ (R'.backOk ag) o fun a z y => dj a z (let ⟨i, _, p⟩ := y; ⟨i, p⟩)
    rw [wr] at po
    exact po.weak fun a z => z.imp (R'.keepWr c) id
  | ex c0 x0 δ' =>
    rw [q] at ok
    obtain ⟨c, ok⟩ := fin ok
    intro σ' cls d H' F' P' ag po R' e
    refine ok cls d H' F' (keepS S P') ?_ (R'.backOk ag) e
    rw [wr] at po
    exact po.weak fun a z => R'.keepWr c z
  | bk δ' => rw [q] at ok; exact ok.elim
  | ct δ' => rw [q] at ok; exact ok.elim
  | bad => rw [q] at ok; exact ok.elim
/-- a def's meaning, by its body -/
theorem fnD_of {b : Sx} (F : Fun K x qual st f fd) (hm : mg x = some (.ref f)) (bi : Binds K fd ps []) (sc : FnScope N ps (defScope st)) (hn : ps.length = n)
    (body : ∀ (cdv : Value) (A : Around) (out : List PySem.Env) (s : Shared) (H : Hp) (E : XK), Ctx (bodyX P w K mg base N qual st f cdv A out s H E) k →
      PassesOwn (model P w) (bodyX P w K mg base N qual st f cdv A out s H E).A (bodyX P w K mg base N qual st f cdv A out s H E).env (bodyX P w K mg base N qual st f cdv A out s H E).xe →
      Takes (bodyX P w K mg base N qual st f cdv A out s H E) (fun cls d _ H => E cls d H) →
      DSs (bodyX P w K mg base N qual st f cdv A out s H E) (fun cls d _ H => E cls d H) S (defBody st) b) : FnD P w K mg base x (k + 1) n S (fnM n N.length S b) :=
  ⟨f, fd, ps, hm, F.kp, hn, bi, fnG_of F sc (fun h => h.1.trans hn.symm) fun cdv A out s H vs Q E c h => spD_body rfl rfl rfl (body cdv A out s H E c (passes_of rfl) (takes_of rfl rfl rfl rfl)) h⟩
end

/-! ### the call -/
def slotOf (δ : Env) (r : Rs) : Option Nat := match r with
  | .d _ => none
  | .sl i => match δ.getD i none with
    | some (.d _) => none
    | some _ => some i
    | none => none
def argT (hand : Bool) (δ : Env) (r : Rs) : Option T := match r with
  | .d x => some (.d x)
  | .sl i => match δ.getD i none with
    | some (.d x) => some (.d x)
    | some t => if hand then (match t.lend with | some _ => some t | none => none) else (match t.lend with | some u => some u | none => some t)
    | none => none
def argTs (S : List Nat) (δ : Env) : Nat → List Rs → Option (List T)
  | _, [] => some []
  | i, r :: rs => match argT (S.contains i) δ r, argTs S δ (i + 1) rs with
    | some t, some ts => some (t :: ts)
    | _, _ => none
def dis (δ : Env) : List Rs → Bool
  | [] => true
  | r :: rs => (match slotOf δ r with | none => true | some i => rs.all fun r' => slotOf δ r' != some i) && dis δ rs
def putU (S0 : List Nat) (rs : List Rs) (δ0 : Env) (us : List (Option T)) : List Nat → Env → Env
  | [], δ => δ
  | j :: S, δ => match (rs[j]?).bind (slotOf δ0) with
    | some i => (putU S0 rs δ0 us S δ).set i (uAt S0 us j)
    | none => putU S0 rs δ0 us S δ
def callA (S : List Nat) (m : List T → Fo) (rs : List Rs) (δ : Env) : Option (T × Env) ⊕ (Str × D × Env) := if dis δ rs then (match argTs S δ 0 rs with
    | some ts => (match m ts with
      | .ret r us => .inl (some (r, putU S rs δ us S δ))
      | .ex c a us => .inr (c, a, putU S rs δ us S δ)
      | .bad => .inl none)
    | none => .inl none) else .inl none
def callN (S : List Nat) (m : List T → Fo) (fs : List Ex) : Nx := fun δ => match evA fs δ with
  | .ok rs δ1 => callA S m rs δ1
  | .ex c a δ1 => .inr (c, a, δ1)
  | .bad => .inl none
def ofN (f : Nx) : Ex := fun δ => match f δ with
  | .inl (some (t, δ1)) => (match t.frz with | some x => .ok (.d x) δ1 | none => .bad)
  | .inl none => .bad
  | .inr (c, a, δ1) => .ex c a δ1
section
variable {K : PySem.W.Frag} {mg : Str → Option Value} {F H : Hp} {L : Addr → Prop} {σ : St} {δ : Env} {P : Nat → Addr → Prop} {S : List Nat} {vs : List V} {rs : List Rs} {ts : List T}
theorem dis_inj : ∀ {rs : List Rs}, dis δ rs = true → ∀ {j j' i : Nat}, (rs[j]?).bind (slotOf δ) = some i → (rs[j']?).bind (slotOf δ) = some i → j = j'
  | [], _, j, j', i, h, _ => by simp at h
  | r :: rs, hd, j, j', i, h1, h2 => by
    simp only [dis, Bool.and_eq_true] at hd
    have no : ∀ {a : Nat}, slotOf δ r = some i → (rs[a]?).bind (slotOf δ) = some i → False := fun {a} e h => by
      obtain ⟨r', h3, h4⟩ := Option.bind_eq_some_iff.mp h
      have z := hd.1
      rw [e] at z
      have y := List.all_eq_true.mp z r' (List.mem_of_getElem? h3)
      simp [h4] at y
    cases j with
    | zero =>
      cases j' with
      | zero => rfl
      | succ b => exact (no (a := b) (by simpa using h1) (by simpa using h2)).elim
    | succ a =>
      cases j' with
      | zero => exact (no (a := a) (by simpa using h2) (by simpa using h1)).elim
      | succ b => rw [dis_inj hd.2 (j := a) (j' := b) (i := i) (by simpa using h1) (by simpa using h2)]
theorem argTs_at : ∀ {rs : List Rs} {ts : List T} {n : Nat}, argTs S δ n rs = some ts → rs.length = ts.length ∧ ∀ (j : Nat) (t : T), ts[j]? = some t → ∃ r, rs[j]? = some r ∧ argT (S.contains (n + j)) δ r = some t
  | [], ts, n, h => by simp only [argTs, Option.some.injEq] at h; subst h; exact ⟨rfl, fun j t e => by simp at e⟩
  | r :: rs, ts, n, h => by
    simp only [argTs] at h
    cases q : argT (S.contains n) δ r with
    | none => rw [q] at h; cases h
    | some t1 =>
      cases q2 : argTs S δ (n + 1) rs with
      | none => rw [q, q2] at h; cases h
      | some ts1 =>
        rw [q, q2] at h
        cases h
        obtain ⟨h1, h2⟩ := argTs_at q2
        refine ⟨by simp [h1], fun j t e => ?_⟩
        cases j with
        | zero => simp at e; subst e; exact ⟨r, rfl, q⟩
        | succ j =>
          obtain ⟨r', h3, h4⟩ := h2 j t (by simpa using e)
          exact ⟨r', by simpa using h3, by rw [← h4, show n + (j + 1) = n + 1 + j from by omega]⟩
theorem RsOks.at_ {K : PySem.W.Frag} {mg : Str → Option Value} : ∀ {vs : List V} {rs : List Rs}, RsOks K mg F σ vs rs → vs.length = rs.length ∧ ∀ (j : Nat) (r : Rs), rs[j]? = some r → ∃ v, vs[j]? = some v ∧ RsOk K mg F σ v r
  | [], [], _ => ⟨rfl, fun j r e => by simp at e⟩
  | v :: vs, r :: rs, h => by
    obtain ⟨h1, h2⟩ := h
    obtain ⟨l, a⟩ := RsOks.at_ h2
    refine ⟨by simp [l], fun j r' e => ?_⟩
    cases j with
    | zero => simp at e; subst e; exact ⟨v, rfl, h1⟩
    | succ j => obtain ⟨v', q1, q2⟩ := a j r' (by simpa using e); exact ⟨v', by simpa using q1, q2⟩
  | [], _ :: _, h => h.elim
  | _ :: _, [], h => h.elim
/-- what the arguments hold -/
def argP (rs : List Rs) (δ : Env) (P : Nat → Addr → Prop) : Nat → Addr → Prop := fun j a => ∃ i, (rs[j]?).bind (slotOf δ) = some i ∧ P i a
theorem slot_has {r : Rs} {i : Nat} (h : slotOf δ r = some i) : r = .sl i ∧ ∃ t, δ.getD i none = some t ∧ ∀ x, t ≠ .d x := by
  cases r with
  | d x => cases h
  | sl j =>
    simp only [slotOf] at h
    split at h
    · cases h
    · rename_i t n e
      cases h
      exact ⟨rfl, t, e, fun x z => n x z⟩
    · cases h
/-- lent or handed: how the callee sees it -/
theorem Ow.forL {t : T} {v : V} {Q : Addr → Prop} {L' : Addr → Prop} (o : Ow K mg F H L v t Q) (u : T) (hu : t.lend = some u) (h : ∀ a, Q a → L' a) : Ow K mg F H L' v u Q := by
  cases t with
  | own l => cases hu; obtain ⟨a, vs, rfl, h1, h2, h3, h4, h5⟩ := o; exact ⟨a, vs, rfl, h1, h2, h a ((h5 a).mpr rfl), h4, h5⟩
  | odk l => cases hu; obtain ⟨a, vs, rfl, h1, h2, h3, h4, h5, h6⟩ := o; exact ⟨a, vs, rfl, h1, h2, h a ((h6 a).mpr rfl), h4, h5, h6⟩
  | odt l => cases hu; obtain ⟨a, vs, rfl, h1, h2, h3, h4, h5, h6⟩ := o; exact ⟨a, vs, rfl, h1, h2, h a ((h6 a).mpr rfl), h4, h5, h6⟩
  | _ => cases hu
theorem Ow.forB {t : T} {v : V} {Q : Addr → Prop} {L' : Addr → Prop} (o : Ow K mg F H L v t Q) (hu : t.lend = none) (h : ∀ a, Q a → L' a) : Ow K mg F H L' v t Q := by
  cases t with
  | d x => exact o
  | bor l => obtain ⟨a, vs, rfl, h1, h2, h3, h4, h5⟩ := o; exact ⟨a, vs, rfl, h1, h2, h a ((h5 a).mpr rfl), h4, h5⟩
  | bdk l => obtain ⟨a, vs, rfl, h1, h2, h3, h4, h5, h6⟩ := o; exact ⟨a, vs, rfl, h1, h2, h a ((h6 a).mpr rfl), h4, h5, h6⟩
  | bdt l => obtain ⟨a, vs, rfl, h1, h2, h3, h4, h5, h6⟩ := o; exact ⟨a, vs, rfl, h1, h2, h a ((h6 a).mpr rfl), h4, h5, h6⟩
  | _ => cases hu
theorem Ow.forH {t u : T} {v : V} {Q : Addr → Prop} {L' : Addr → Prop} (o : Ow K mg F H L v t Q) (hu : t.lend = some u) (h : ∀ a, Q a → ¬ L' a) : Ow K mg F H L' v t Q ∧ ∀ a, Q a → ¬ L a := by
  cases t with
  | own l => obtain ⟨a, vs, rfl, h1, h2, h3, h4, h5⟩ := o; exact ⟨⟨a, vs, rfl, h1, h2, h a ((h5 a).mpr rfl), h4, h5⟩, fun b q => by rw [(h5 b).mp q]; exact h3⟩
  | odk l => obtain ⟨a, vs, rfl, h1, h2, h3, h4, h5, h6⟩ := o; exact ⟨⟨a, vs, rfl, h1, h2, h a ((h6 a).mpr rfl), h4, h5, h6⟩, fun b q => by rw [(h6 b).mp q]; exact h3⟩
  | odt l => obtain ⟨a, vs, rfl, h1, h2, h3, h4, h5, h6⟩ := o; exact ⟨⟨a, vs, rfl, h1, h2, h a ((h6 a).mpr rfl), h4, h5, h6⟩, fun b q => by rw [(h6 b).mp q]; exact h3⟩
  | _ => cases hu
/-- what comes back: not lent -/
theorem Ow.home {t : T} {v : V} {Q : Addr → Prop} {L' : Addr → Prop} (o : Ow K mg F H L' v t Q) (h1 : ∀ a, Q a → ¬ L' a) (h2 : ∀ a, Q a → ¬ L a) : Ow K mg F H L v t Q := by
  cases t with
  | d x => exact o
  | own l => obtain ⟨a, vs, rfl, q1, q2, q3, q4, h5⟩ := o; exact ⟨a, vs, rfl, q1, q2, h2 a ((h5 a).mpr rfl), q4, h5⟩
  | odk l => obtain ⟨a, vs, rfl, q1, q2, q3, q4, q5, h6⟩ := o; exact ⟨a, vs, rfl, q1, q2, h2 a ((h6 a).mpr rfl), q4, q5, h6⟩
  | odt l => obtain ⟨a, vs, rfl, q1, q2, q3, q4, q5, h6⟩ := o; exact ⟨a, vs, rfl, q1, q2, h2 a ((h6 a).mpr rfl), q4, q5, h6⟩
  | bor l => obtain ⟨a, vs, rfl, q1, q2, q3, q4, h5⟩ := o; exact absurd q3 (h1 a ((h5 a).mpr rfl))
  | bdk l => obtain ⟨a, vs, rfl, q1, q2, q3, q4, q5, h6⟩ := o; exact absurd q3 (h1 a ((h6 a).mpr rfl))
  | bdt l => obtain ⟨a, vs, rfl, q1, q2, q3, q4, q5, h6⟩ := o; exact absurd q3 (h1 a ((h6 a).mpr rfl))
theorem args_ok (R : Rep K mg F H L σ δ P) (ro : RsOks K mg F σ vs rs) (hd : dis δ rs = true) (ha : argTs S δ 0 rs = some ts) : ArgsOk K mg F H S vs ts (argP rs δ P) ∧ ∀ a, Hd S (argP rs δ P) a → Wr L P a := by
  obtain ⟨l1, a1⟩ := argTs_at ha
  obtain ⟨l2, a2⟩ := ro.at_
  have noneP : ∀ {j : Nat} {r : Rs}, rs[j]? = some r → slotOf δ r = none → ∀ a, ¬ argP rs δ P j a := fun {j r} h1 h2 a ⟨i, q, _⟩ => by rw [h1] at q; simp [h2] at q
  have someP : ∀ {j i : Nat} {r : Rs}, rs[j]? = some r → slotOf δ r = some i → argP rs δ P j = P i := fun {j i r} h1 h2 => by
    funext a
    refine propext ⟨fun ⟨i', q, p⟩ => ?_, fun p => ⟨i, by rw [h1]; simpa using h2, p⟩⟩
    rw [h1] at q
    simp only [Option.bind_some] at q
    rw [h2] at q
    cases q
    exact p
  have inj : ∀ {j j' : Nat} {a : Addr}, argP rs δ P j a → argP rs δ P j' a → j = j' := fun {j j' a} ⟨i, q, p⟩ ⟨i', q', p'⟩ => by
    obtain rfl := R.dj i i' a p p'
    exact dis_inj hd q q'
  have known : ∀ {j : Nat} {a : Addr}, argP rs δ P j a → H a ≠ none ∧ F a = none := fun ⟨i, _, p⟩ => R.has ⟨i, p⟩
  have one : ∀ {j : Nat} {t : T}, ts[j]? = some t → ∃ v, vs[j]? = some v ∧ Ow K mg F H (Lx F H S (argP rs δ P)) v t (argP rs δ P j) ∧ (j ∈ S → ∀ a, argP rs δ P j a → ¬ L a) := fun {j t} e => by
    obtain ⟨r, hr, hat⟩ := a1 j t e
    obtain ⟨v, hv, rv⟩ := a2 j r hr
    rw [Nat.zero_add] at hat
    refine ⟨v, hv, ?_⟩
    cases r with
    | d x => cases hat; exact ⟨⟨rv, noneP hr rfl⟩, fun _ a p => absurd p (noneP hr rfl a)⟩
    | sl i =>
      simp only [argT] at hat
      split at hat
      · rename_i x e2
        cases hat
        obtain ⟨w, h1, h2⟩ := R.at_ i _ e2
        have rv' : σ.getD i none = some v := rv
        rw [h1] at rv'
        cases rv'
        have sn : slotOf δ (.sl i) = none := by unfold slotOf; simp only [e2]
        exact ⟨⟨h2.1, noneP hr sn⟩, fun _ a p => absurd p (noneP hr sn a)⟩
      · rename_i t0 n e2
        have sn : slotOf δ (.sl i) = some i := by
          simp only [slotOf, e2]
        obtain ⟨w, h1, h2⟩ := R.at_ i _ e2
        have rv' : σ.getD i none = some v := rv
        rw [h1] at rv'
        cases rv'
        rw [someP hr sn]
        by_cases hj : j ∈ S
        · rw [if_pos (List.contains_iff_mem.mpr hj)] at hat
          cases q : t0.lend with
          | none => rw [q] at hat; cases hat
          | some u =>
            rw [q] at hat
            cases hat
            obtain ⟨o1, o2⟩ := h2.forH q (L' := Lx F H S (argP rs δ P)) fun a p z => z.2.2 j hj (by rw [someP hr sn]; exact p)
            exact ⟨o1, fun _ => o2⟩
        · have hc : S.contains j = false := by
            cases q : S.contains j with
            | false => rfl
            | true => exact absurd (List.contains_iff_mem.mp q) hj
          rw [hc] at hat
          simp only [Bool.false_eq_true, if_false] at hat
          have lent : ∀ a, P i a → Lx F H S (argP rs δ P) a := fun a p => ⟨(R.has ⟨i, p⟩).1, (R.has ⟨i, p⟩).2, fun j' hj' z => hj (by
            have p' : argP rs δ P j a := by rw [someP hr sn]; exact p
            rw [inj p' z]; exact hj')⟩
          refine ⟨?_, fun z => absurd z hj⟩
          cases q : t0.lend with
          | none => rw [q] at hat; cases hat; exact h2.forB q lent
          | some u => rw [q] at hat; cases hat; exact h2.forL _ q lent
      · cases hat
  refine ⟨⟨R.sub, by rw [l2, l1], fun j t e => let ⟨v, h1, h2, _⟩ := one e; ⟨v, h1, h2⟩, fun j a ⟨i, q, p⟩ => ?_, fun j j' a => inj⟩, fun a ⟨j, hj, p⟩ => ?_⟩
  · obtain ⟨r, h1, _⟩ := Option.bind_eq_some_iff.mp q
    rw [← l1]
    exact (List.getElem?_eq_some_iff.mp h1).1
  · obtain ⟨i, q, p'⟩ := id p
    refine ⟨⟨i, p'⟩, ?_⟩
    obtain ⟨r, h1, _⟩ := Option.bind_eq_some_iff.mp q
    have hj2 : j < ts.length := by rw [← l1]; exact (List.getElem?_eq_some_iff.mp h1).1
    obtain ⟨_, _, _, h⟩ := one (List.getElem?_eq_getElem hj2)
    exact h hj a p
theorem putU_len {S0 S : List Nat} {us : List (Option T)} {δ0 : Env} : (putU S0 rs δ0 us S δ).length = δ.length := by
  induction S with
  | nil => rfl
  | cons j S ih => rw [putU]; split <;> simp [ih]
theorem putU_hit {S0 : List Nat} {us : List (Option T)} {δ0 : Env} (inj : ∀ {j j' i : Nat}, (rs[j]?).bind (slotOf δ0) = some i → (rs[j']?).bind (slotOf δ0) = some i → j = j') {j i : Nat} (hs : (rs[j]?).bind (slotOf δ0) = some i) (hi : i < δ.length) :
    ∀ {S : List Nat}, j ∈ S → (putU S0 rs δ0 us S δ).getD i none = uAt S0 us j
  | [], h => by simp at h
  | j' :: S, h => by
    by_cases e : j' = j
    · subst e
      rw [putU, hs]
      exact getD_set_self (by rw [putU_len]; exact hi)
    · have hS : j ∈ S := (List.mem_cons.mp h).resolve_left (Ne.symm e)
      have ih := putU_hit (S0 := S0) (us := us) inj hs hi hS
      rw [putU]
      split
      · rename_i i' q
        have ne : i' ≠ i := fun z => e (inj (z ▸ q) hs)
        rw [getD_set_ne ne]; exact ih
      · exact ih
theorem putU_miss {S0 : List Nat} {us : List (Option T)} {δ0 : Env} {i : Nat} : ∀ {S : List Nat}, (∀ j ∈ S, (rs[j]?).bind (slotOf δ0) ≠ some i) → (putU S0 rs δ0 us S δ).getD i none = δ.getD i none
  | [], _ => rfl
  | j' :: S, h => by
    have ih := putU_miss (S0 := S0) (us := us) fun j hj => h j (List.mem_cons_of_mem _ hj)
    rw [putU]
    split
    · rename_i i' q
      have ne : i' ≠ i := fun z => h j' List.mem_cons_self (z ▸ q)
      rw [getD_set_ne ne]; exact ih
    · exact ih
open Classical in
/-- what the slots hold behind the call -/
def backP (S : List Nat) (rs : List Rs) (δ : Env) (P Pc : Nat → Addr → Prop) : Nat → Addr → Prop := fun i a => if ∃ j ∈ S, (rs[j]?).bind (slotOf δ) = some i then ∃ j ∈ S, (rs[j]?).bind (slotOf δ) = some i ∧ Pc j a else P i a
theorem call_back {F' H' : Hp} {us : List (Option T)} {Pc : Nat → Addr → Prop} {W2 : Addr → Prop} (R : Rep K mg F H L σ δ P) (ro : RsOks K mg F σ vs rs) (hd : dis δ rs = true) (ha : argTs S δ 0 rs = some ts)
    (po : Post F H (Hd S (argP rs δ P)) F' H' W2) (hw : ∀ a, U Pc a → W2 a) (bk : BackOk K mg S F' H' (Lx F H S (argP rs δ P)) vs us Pc) :
    Rep K mg F' H' L σ (putU S rs δ us S δ) (backP S rs δ P Pc) ∧ Post F H (Wr L P) F' H' (fun a => Wr L (backP S rs δ P Pc) a ∨ (W2 a)) ∧ (∀ a, W2 a → ¬ L a) ∧ (∀ a, W2 a → ¬ Lx F H S (argP rs δ P) a) ∧ ∀ a, U (backP S rs δ P Pc) a → W2 a → U Pc a := by
  obtain ⟨ao, wr⟩ := args_ok R ro hd ha
  obtain ⟨l2, a2⟩ := ro.at_
  have inj := fun {j j' i : Nat} => dis_inj hd (j := j) (j' := j') (i := i)
  have nL : ∀ a, W2 a → ¬ L a := fun a w l => by
    rcases po.newW a w with z | z
    · exact (wr a z).2 l
    · exact (R.lk a l).1 z
  have nLx : ∀ a, W2 a → ¬ Lx F H S (argP rs δ P) a := fun a w l => by
    rcases po.newW a w with ⟨j, hj, z⟩ | z
    · exact l.2.2 j hj z
    · exact l.1 z
  -- slots that were not handed stand
  have still : ∀ {i : Nat} {a : Addr}, (¬ ∃ j ∈ S, (rs[j]?).bind (slotOf δ) = some i) → P i a → ¬ Hd S (argP rs δ P) a := fun {i a} n p ⟨j, hj, i', q, p'⟩ => n ⟨j, hj, by rw [R.dj i i' a p p']; exact q⟩
  have free : ∀ {a : Addr}, H a ≠ none → F a = none → ¬ Hd S (argP rs δ P) a → F' a = none := fun {a} h1 h2 n => by
    cases q : F' a with
    | none => rfl
    | some x =>
      rcases po.newF a (by rw [q]; simp) with z | z | z
      · exact absurd h2 z
      · exact absurd z n
      · exact absurd z h1
  have clash : ∀ {i : Nat} {a : Addr}, (¬ ∃ j ∈ S, (rs[j]?).bind (slotOf δ) = some i) → P i a → ¬ W2 a := fun {i a} n p w => by
    rcases po.newW a w with z | z
    · exact still n p z
    · exact (R.has ⟨i, p⟩).1 z
  refine ⟨⟨bk.sub, by rw [putU_len]; exact R.len, fun i t e => ?_, fun i a p => ?_, fun i i' a p p' => ?_, fun a l => ?_⟩, ?_, nL, nLx, ?_⟩
  · by_cases c : ∃ j ∈ S, (rs[j]?).bind (slotOf δ) = some i
    · obtain ⟨j, hj, hs⟩ := id c
      obtain ⟨r, hr, hsl⟩ := Option.bind_eq_some_iff.mp hs
      obtain ⟨rfl, t0, e0, _⟩ := slot_has hsl
      rw [putU_hit (δ := δ) inj hs (getD_lt e0) hj] at e
      obtain ⟨v, h1, h2⟩ := bk.at_ j t e
      obtain ⟨v', h3, h4⟩ := a2 j _ hr
      rw [h1] at h3
      cases h3
      refine ⟨v, h4, ?_⟩
      have : backP S rs δ P Pc i = Pc j := by
        funext a
        unfold backP
        rw [if_pos c]
        exact propext ⟨fun ⟨j', _, q, p⟩ => by rw [inj hs q]; exact p, fun p => ⟨j, hj, hs, p⟩⟩
      rw [this]
      exact h2.home (fun a p => nLx a (hw a ⟨j, p⟩)) fun a p => nL a (hw a ⟨j, p⟩)
    · rw [putU_miss fun j hj q => c ⟨j, hj, q⟩] at e
      obtain ⟨v, h1, h2⟩ := R.at_ i t e
      refine ⟨v, h1, ?_⟩
      have : backP S rs δ P Pc i = P i := by funext a; unfold backP; rw [if_neg c]
      rw [this]
      exact h2.step po.mono (fun a o q p => po.keep a o q (still c p)) fun a p => free (R.has ⟨i, p⟩).1 (R.has ⟨i, p⟩).2 (still c p)
  · unfold backP at p
    split at p
    · obtain ⟨j, hj, hs, p⟩ := p
      obtain ⟨_, t, e⟩ := bk.no j a p
      obtain ⟨r, hr, hsl⟩ := Option.bind_eq_some_iff.mp hs
      obtain ⟨rfl, t0, e0, _⟩ := slot_has hsl
      exact ⟨t, by rw [putU_hit (δ := δ) inj hs (getD_lt e0) hj]; exact e⟩
    · rename_i c
      obtain ⟨t, e⟩ := R.no i a p
      exact ⟨t, by rw [putU_miss fun j hj q => c ⟨j, hj, q⟩]; exact e⟩
  · unfold backP at p p'
    split at p
    · obtain ⟨j, hj, hs, p⟩ := p
      split at p'
      · obtain ⟨j', hj', hs', p'⟩ := p'
        obtain rfl := bk.dj j j' a p p'
        rw [hs] at hs'
        cases hs'
        rfl
      · rename_i c
        exact absurd (hw a ⟨j, p⟩) (clash c p')
    · rename_i c
      split at p'
      · obtain ⟨j', hj', hs', p'⟩ := p'
        exact absurd (hw a ⟨j', p'⟩) (clash c p)
      · exact R.dj i i' a p p'
  · obtain ⟨l1, l3⟩ := R.lk a l
    have n : ¬ Hd S (argP rs δ P) a := fun z => (wr a z).2 l
    refine ⟨?_, free l1 l3 n⟩
    cases q : H a with
    | none => exact absurd q l1
    | some o => rw [po.keep a o q n]; simp
  · refine ⟨po.mono, fun a o q n => po.keep a o q fun z => n (wr a z), fun a q => (po.newF a q).imp id fun z => z.imp (wr a) id, fun a q => ?_⟩
    have old : W2 a → Wr L P a ∨ H a = none := fun w => (po.newW a w).imp (wr a) id
    rcases q with ⟨⟨i, p⟩, n⟩ | w
    · unfold backP at p
      split at p
      · obtain ⟨j, hj, hs, p⟩ := p
        exact old (hw a ⟨j, p⟩)
      · exact .inl ⟨⟨i, p⟩, n⟩
    · exact old w
  · rintro a ⟨i, p⟩ w
    unfold backP at p
    split at p
    · obtain ⟨j, hj, hs, p⟩ := p
      exact ⟨j, p⟩
    · rename_i c
      exact absurd w (clash c p)
end
section
variable {K : PySem.W.Frag} {mg : Str → Option Value} {W : WX} {S : List Nat} {m : List T → Fo} {n : Nat} {tl : TA} {fs : List Ex}
/-- the callee's promise, from the caller's side -/
theorem call_ok {σ : St} {H F : Hp} {L : Addr → Prop} {δ : Env} {P : Nat → Addr → Prop} {vs : List V} {rs : List Rs} {Q : VK} (hn : vs.length = n) (R : Rep K mg F H L σ δ P) (ro : RsOks K mg F σ vs rs) {o : Option (T × Env) ⊕ (Str × D × Env)} (e : callA S m rs δ = o) (ho : o ≠ .inl none)
    (ok : ∀ r δ', o = .inl (some (r, δ')) → ∀ v H' F' P' Pr, Post F H (Wr L P) F' H' (fun a => Wr L P' a ∨ Pr a) → Rep K mg F' H' L σ δ' P' → Ow K mg F' H' L v r Pr → (∀ a, Pr a → ¬ U P' a) → Q v H')
    (ex : ∀ c a δ', o = .inr (c, a, δ') → ∀ cls d H' F' P', Post F H (Wr L P) F' H' (Wr L P') → Rep K mg F' H' L σ δ' P' → ExcIs K mg F' c a cls d → W cls d σ H') : spD K mg n S m vs H Q (WE W σ) := by
  simp only [callA] at e
  split at e
  · rename_i hd
    cases ha : argTs S δ 0 rs with
    | none => rw [ha] at e; exact absurd e.symm ho
    | some ts =>
      rw [ha] at e
      simp only at e
      refine ⟨hn, F, ts, argP rs δ P, (args_ok R ro hd ha).1, ?_⟩
      cases q : m ts with
      | bad => rw [q] at e; exact absurd e.symm ho
      | ret r us =>
        rw [q] at e
        intro v H' F' Pc Pr po bk o1 dj
        obtain ⟨R', po', nL, nLx, cl⟩ := call_back R ro hd ha po (fun a z => .inl z) bk
        refine ok r _ e.symm v H' F' _ Pr (po'.weak fun a z => z.imp id .inr) R' (o1.home (fun a p => nLx a (.inr p)) fun a p => nL a (.inr p)) fun a p u => dj a p (cl a u (.inr p))
      | ex c a us =>
        rw [q] at e
        intro cls d H' F' Pc po bk x
        obtain ⟨R', po', nL, nLx, cl⟩ := call_back R ro hd ha po (fun a z => z) bk
        exact ex c a _ e.symm cls d H' F' _ (po'.weak fun b z => .inl z) R' x
  · exact absurd e.symm ho
theorem mn_callN (hl : fs.length = n) (ha : MnA K mg W tl (evA fs)) : MnN K mg W (tCallS (spD K mg n S m) (WE W) tl) (callN S m fs) where
  ok := fun σ H F L δ P r δ' Q R e k => by
    simp only [callN] at e
    cases q : evA fs δ with
    | ok rs δ1 =>
      rw [q] at e
      refine ha.ok σ H F L δ P rs δ1 _ R q fun vs H1 F1 P1 p1 R1 ro => ?_
      have hvs : vs.length = n := by rw [(RsOks.at_ ro).1, ← hl]; exact evA_len q
      exact call_ok hvs R1 ro e (by simp) (fun r2 δ2 z v H' F' P' Pr po R' o dj => by cases z; exact k v H' F' P' Pr (p1.trans po) R' o dj) fun c a δ2 z => by cases z
    | ex c a δ1 => rw [q] at e; cases e
    | bad => rw [q] at e; cases e
  ex := fun σ H F L δ P c a δ' Q R e k => by
    simp only [callN] at e
    cases q : evA fs δ with
    | ok rs δ1 =>
      rw [q] at e
      refine ha.ok σ H F L δ P rs δ1 _ R q fun vs H1 F1 P1 p1 R1 ro => ?_
      have hvs : vs.length = n := by rw [(RsOks.at_ ro).1, ← hl]; exact evA_len q
      exact call_ok hvs R1 ro e (by simp) (fun r2 δ2 z => by cases z) fun c2 a2 δ2 z cls d H' F' P' po R' x => by cases z; exact k cls d H' F' P' (p1.trans po) R' x
    | ex c2 a2 δ1 =>
      rw [q] at e
      cases e
      exact ha.ex σ H F L δ P _ _ _ _ R q k
    | bad => rw [q] at e; cases e
theorem mn_ofN {t : TE} {f : Nx} (h : MnN K mg W t f) : MnE K mg W t (ofN f) where
  ok := fun σ H F L δ P r δ' Q R e k => by
    simp only [ofN] at e
    cases q : f δ with
    | inl o =>
      cases o with
      | none => rw [q] at e; cases e
      | some p =>
        obtain ⟨t1, δ1⟩ := p
        rw [q] at e
        simp only at e
        cases q2 : t1.frz with
        | none => rw [q2] at e; cases e
        | some x =>
          rw [q2] at e
          cases e
          refine h.ok σ H F L δ P t1 _ Q R q fun v H' F' P' Pr po R' o dj => ?_
          obtain ⟨F2, g1, g2, g3, g4, hz, g5⟩ := o.freeze R'.sub q2
          have free : ∀ {a : Addr}, ¬ Pr a → F' a = none → F2 a = none := fun {a} n z => by rw [g4 a n]; exact z
          have nl : ∀ {a : Addr}, L a → ¬ Pr a := fun l p => g5 _ p l
          refine k v H' F2 P' ⟨fun a o q => g1 a o (po.mono a o q), po.keep, fun a q => ?_, fun a q => po.newW a (.inl q)⟩ ⟨g2, R'.len, fun i t e => ?_, R'.no, R'.dj, fun a l => ⟨(R'.lk a l).1, free (nl l) (R'.lk a l).2⟩⟩ hz
          · rcases g3 a q with z | z
            · exact po.newF a z
            · exact .inr (po.newW a (.inr z))
          · obtain ⟨w, h1, h2⟩ := R'.at_ i t e
            exact ⟨w, h1, h2.step g1 (fun a o z _ => z) fun a p => free (fun z => dj a z ⟨i, p⟩) (h2.has p).2⟩
    | inr p => obtain ⟨c, a, δ1⟩ := p; rw [q] at e; cases e
  ex := fun σ H F L δ P c a δ' Q R e k => by
    simp only [ofN] at e
    cases q : f δ with
    | inl o =>
      cases o with
      | none => rw [q] at e; cases e
      | some p =>
        obtain ⟨t1, δ1⟩ := p
        rw [q] at e
        simp only at e
        split at e <;> cases e
    | inr p =>
      obtain ⟨c2, a2, δ1⟩ := p
      rw [q] at e
      cases e
      exact h.ex σ H F L δ P _ _ _ Q R q k
end
/-! ### rules -/
section
variable {X : Cx} {W : WX} {e : Expr} {es : List Expr} {x : Str} {k k' n : Nat} {S : List Nat} {m : List T → Fo} {tl : TA} {fs : List Ex} {p pos : Pos} {te : TE} {fn : Nx}
theorem FnG.call {f : Addr} {fd : FuncData} {ps : List Str} {sp : Sp} {pins : List (Addr × Obj)} {s : Shared} {σ : St} {H : Hp} {us : List Value} {vs : List V} {Q : VK} (g : FnG X.prog X.w X.K X.mg X.base k f fd ps sp) (c : Ctx X k) (bi : Binds X.K fd ps []) (tk : Takes X W)
    (I : Inv X pins σ H s) (rv : Vals vs us) (h : sp vs H Q (WE W σ)) : wpAny (model X.prog X.w) X.A (call (.ref f) us) (EP X pins σ Q) X.xe s := by
  have wd : us.length = ps.length := rv.length.symm.trans (g.wide h)
  have bd := bi s us I.kIn (by simpa using wd)
  rw [List.append_nil] at bd
  have run := g.go c.room c.grd I.env0 bd rv h
  refine wpAny_call (codeAny_mono run ?_)
  rintro (ex | fl) s2 e2
  · exact passAt tk σ pins H s ex s2 I e2
  · cases fl with
    | ret u => exact I.after e2
    | _ => exact e2.elim
theorem dn_call (g : FnD X.prog X.w X.K X.mg X.base x k n S m) (c : Ctx X k') (hk : k ≤ k') (tk : Takes X W) (ha : DA X W (e :: es) tl (evA fs)) (hl : fs.length = n := by rfl) (hg : Gl X x := by rfl) (hdb : (x == ("__debug__" : Str)) = false := by decide)
    (he : starEach (e :: es) X.env = (false, eval e X.env) :: starEach es X.env := by rfl) (hpl : (backTo pos (starEach es X.env)).any (·.1) = false := by rfl) : DN X W (.Call (.Name x p) (e :: es) [] pos) (tCallS (spD X.K X.mg n S m) (WE W) tl) (callN S m fs) where
  pe := ⟨fun pins s σ H Q I h => by
    obtain ⟨f, fd, ps, hm, kp, hn, bi, G⟩ := g.ex
    refine wpAny_Call_Name_kw (ld_glob I hg hm (PySem.W.callWith_K (h₀ := X.base) I.ok.mod.kin kp (thn (ha.pe.run pos pins s σ H _ I h) ?_) he hpl) hdb)
    rintro us s1 ⟨vs, H1, I1, rv, q⟩
    exact ⟨I1.kIn, G.call (c.down hk) bi tk I1 rv q⟩⟩
  mn := mn_callN hl ha.mn
theorem de_ofN (h : DN X W e te fn) : DE X W e te (ofN fn) := ⟨h.pe, mn_ofN h.mn⟩
end
end Dl

/-! DlX: the program's own exceptions: the making of one (its __init__ calls super().__init__). -/
namespace Dl
open PySem L2

/-- the __init__ body's context -/
def iniX (P : Program) (w : World) (K : PySem.W.Frag) (mg : Str → Option Value) (base : Heap) (N : List Str) (env : PySem.Env) (A : Around) (out : List PySem.Env) (s : Shared) (H : Hp) : Cx :=
  { prog := P, w := w, K := K, mg := mg, base := base, A := A.deeper env, N := N, s_0 := s, H_0 := H, env := env, outer := out, stack := env :: out, ex := [], fn := fun x => x != "__class__", calm := true, pn := [], xe := fun _ _ => False }
/-- the written facts of an own error class and of its __init__ -/
structure ErrTxt (P : Program) (K : PySem.W.Frag) (mg : Str → Option Value) (C f cc cda : Addr) (qual : Str) (params : Arguments) (body : List Stmt) (scope : Scope) (attr : Str) : Prop where
  o : OexC K C
  init : PySem.W.findIn K (.ref C) "__init__" = some (some (.ref f))
  tyf : PySem.W.typeIn K (.ref f) = some (.type "function")
  noA : PySem.W.findIn K (.ref C) attr = some none
  lk : ∃ oc od kV doc pm an ct osl, K.lookup f = some ⟨oc, od, .func (PySem.W.ksFn "__init__" qual params body scope .none kV doc pm an (.ref cda) ct cc), osl⟩
  code : PySem.W.codeIn K (.ref cda) qual = true
  file : ∃ ccl cdd vs ccs fl tf, K.lookup cda = some ⟨ccl, cdd, .fields vs, ccs⟩ ∧ vs[2]? = some (.str fl tf) ∧ ((P.main.file : Str) == fl) = true
  cell : ∃ cl cld csl, K.lookup cc = some ⟨cl, cld, .cell (some (.ref C)), csl⟩
  sub1 : PySem.W.subIn K (.ref C) (.ref C) = some true
  subV : PySem.W.subIn K (.ref C) (.type "ValueError") = some true
  sup : PySem.W.ks_superIn K C C "__init__" = some (some (.builtin "ValueError.__init__"))
  noS : mg "super" = none
  noStr : mg "str" = none
  top : (P.main.scope.names.lookup ("super" : Str)).isSome = false
  opq : PySem.W.nsIn K PySem.cStatics "thirdparty.any" = some none

/-- what such an error may be made with -/
def Okx (x : V) : Prop := (∃ t, x = .str t ∧ t.length ≤ 1000000) ∨ ∃ n : Nat, x = .int n ∧ n < 10 ^ 100
def spErr (C : Addr) (attr : Str) : Sp := fun vs H Q _ => ∃ a x, vs = [.ref a, x] ∧ Okx x ∧ H a = some (exo a C none) ∧ ∀ dx, H dx = none → dx ≠ a → Q .non (upd (upd H dx (exd dx [(attr, x)])) a (exo a C (some dx)))

section
variable {P : Program} {w : World} {K : PySem.W.Frag} {mg : Str → Option Value} {base : Heap} {N : List Str} {env : PySem.Env} {A : Around} {out : List PySem.Env} {s : Shared} {H : Hp} {C f cc cda : Addr} {qual : Str} {params : Arguments} {body : List Stmt} {scope : Scope} {attr arg : Str}
/-- the scope of such an __init__ -/
structure IniScope (arg : Str) (sc : Scope) : Prop where
  kind : sc.kind = .function
  co : sc.isCoroutine = false
  gen : sc.isGenerator = false
  slf : sc.names.lookup ("self" : Str) = some .local
  ar : sc.names.lookup arg = some .local
  cls : sc.names.lookup ("__class__" : Str) = some .free
  sup : sc.names.lookup ("super" : Str) = some .globalImplicit
  cells : ∀ y ∈ sc.names, y.2 ≠ .cell
  frees : ∀ y, sc.names.lookup y = some .free → y = "__class__"
  ne : ("self" : Str) ≠ arg
theorem nocell {sc : Scope} (h : ∀ y ∈ sc.names, y.2 ≠ .cell) (y : Str) : sc.names.lookup y ≠ some .cell := fun e => h _ (PySem.mem_of_lookup e) rfl
theorem one_cell {c : Addr} {x : Str} {b : Addr} (h : (([("__class__", c)] : List (Str × Addr))).lookup x = some b) : x = "__class__" ∧ b = c := by
  have m := PySem.mem_of_lookup h
  simp only [List.mem_singleton, Prod.mk.injEq] at m
  exact m
theorem ini_inv {h1 : Heap} {cdv : Value} {us : List Value} {a : Addr} {x : V} {t' : Nat} (T : ErrTxt P K mg C f cc cda qual params body scope attr) (S : IniScope arg scope) (hd : A.handled = none) (e0 : Env0 P w K mg base A out s H)
    (rv : Vals [.ref a, x] us) (hn : h1.Ns s.heap.objs.size (fun y => (([("self" : Str), arg].zip us).reverse).lookup y)) (hk : ∀ b o, s.heap.get? b = some o → h1.get? b = some o) :
    Inv (iniX P w K mg base [("self" : Str), arg] (PySem.W.ksEnv qual scope s.heap.objs.size f cdv cc) A out s H) [] [some (.ref a), some x] H { s with heap := h1, toks := t' } := by
  obtain ⟨cl, cld, csl, hcell⟩ := T.cell
  have cellAt : base.get? cc = some ⟨cl, cld, .cell (some (.ref C)), csl⟩ := e0.mod.kin _ _ hcell
  have noEx : ∀ {b : Addr}, b ∉ (iniX P w K mg base [("self" : Str), arg] (PySem.W.ksEnv qual scope s.heap.objs.size f cdv cc) A out s H).ex := fun {b} z => by
    have z' : b ∈ ([] : List Addr) := z
    cases z'
  obtain ⟨u1, u2, rfl, r1, r2⟩ : ∃ u1 u2, us = [u1, u2] ∧ RelV (.ref a) u1 ∧ RelV x u2 := by
    cases rv with
    | cons r1 rv =>
      cases rv with
      | cons r2 rv => cases rv; exact ⟨_, _, rfl, r1, r2⟩
  refine ⟨⟨e0.mod, S.kind, rfl, rfl, Nat.le_refl _, fun y z c q1 q2 => (one_cell q1).1.trans (one_cell q2).1.symm, fun y q => ?_, fun y c q1 q2 => ?_, fun _ => hd, Around.frames_deeper e0.frames, .inr ⟨rfl, rfl⟩, fun b z => absurd z noEx, e0.bs, e0.bsz, fun b _ _ => noEx, fun b z => absurd z noEx, e0.funs, e0.frf⟩,
    rfl, e0.bare, Un.kept hk, ⟨_, hn, fun i y v q1 q2 _ => ?_⟩, fun y c q => ?_, e0.hok.fresh (Nat.le_refl _), fun y c q => ?_, fun p hp => absurd (show p ∈ ([] : List (Addr × Obj)) from hp) (by simp), e0.hok.kept hk, rfl⟩
  · have q' : scope.names.lookup y = some .cell ∨ scope.names.lookup y = some .free := q
    rcases q' with q' | q'
    · exact absurd q' (nocell S.cells y)
    · rw [S.frees y q']; exact ⟨cc, rfl⟩
  · have z := (one_cell q2).1
    subst z
    exact absurd (show (("__class__" : Str) != "__class__") = true from q1) (by simp)
  · have ne : ¬ (arg == ("self" : Str)) = true := by simpa using S.ne.symm
    have ne' : (("self" : Str) == arg) = false := by simpa using S.ne
    cases i with
    | zero =>
      have e1 : ("self" : Str) = y := by simpa [iniX] using q1
      have e2 : V.ref a = v := by simpa using q2
      subst e1 e2
      refine ⟨u1, r1, .inl ⟨S.slf, ?_⟩⟩
      show (([(("self" : Str), u1), (arg, u2)] : List (Str × Value)).reverse).lookup ("self" : Str) = some u1
      simp [List.lookup, ne']
    | succ i =>
      cases i with
      | zero =>
        have e1 : arg = y := by simpa [iniX] using q1
        have e2 : x = v := by simpa using q2
        subst e1 e2
        refine ⟨u2, r2, .inl ⟨S.ar, ?_⟩⟩
        show (([(("self" : Str), u1), (arg, u2)] : List (Str × Value)).reverse).lookup arg = some u2
        simp [List.lookup]
      | succ i => simp at q2
  · rw [(one_cell q).2]
    exact ⟨_, _, hk _ _ (e0.bs _ _ cellAt).1, rfl⟩
  · rw [(one_cell q).2]
    exact (e0.bs _ _ cellAt).2

/-- super().__init__(e): only the state's made objects change -/
theorem super_init {L : Addr} {body' : List Stmt} {e : Expr} {targ : TE} {a : Addr} {x : V} {s1 : Shared} {p0 p1 p2 p3 p4 : Pos} {Q : Flow → Shared → Prop} {E : Value → Shared → Prop} (T : ErrTxt P K mg C f cc cda qual params body scope attr) (S : IniScope arg scope)
    (par : (params.posonlyargs ++ params.args).head?.map (·.arg) = some ("self" : Str))
    (I : Inv (iniX P w K mg base [("self" : Str), arg] (PySem.W.ksEnv qual scope L f (.ref cda) cc) A out s H) [] [some (.ref a), some x] H s1) (ha : H a = some (exo a C none))
    (pe : PE (iniX P w K mg base [("self" : Str), arg] (PySem.W.ksEnv qual scope L f (.ref cda) cc) A out s H) e targ) (run : ∀ Q : VK, (∀ y, Q (.str y) H) → targ [some (.ref a), some x] H Q)
    (he : starEach [e] (PySem.W.ksEnv qual scope L f (.ref cda) cc) = [(false, eval e (PySem.W.ksEnv qual scope L f (.ref cda) cc))]) (hs : swapsWith (.Call (.Attribute (.Call (.Name "super" p0) [] [] p1) "__init__" p2) [e] [] p3) none p4.line (PySem.W.ksEnv qual scope L f (.ref cda) cc) = pure false)
    {pl : Sem Bool} (ht : eval (.Call (.Attribute (.Call (.Name "super" p0) [] [] p1) "__init__" p2) [e] [] p3) (PySem.W.ksEnv qual scope L f (.ref cda) cc) = (do
      let ov ← attributeBase (.Call (.Name "super" p0) [] [] p1) "__init__" (PySem.W.ksEnv qual scope L f (.ref cda) cc) (eval (.Call (.Name "super" p0) [] [] p1) (PySem.W.ksEnv qual scope L f (.ref cda) cc))
      standAt p2.atName
      let (fv, first) ← holding [ov] (getMethod ov "__init__" pl)
      callWith p3 fv first (backTo p3 (starEach [e] (PySem.W.ksEnv qual scope L f (.ref cda) cc))) []))
    (h : ∀ s2, Inv (iniX P w K mg base [("self" : Str), arg] (PySem.W.ksEnv qual scope L f (.ref cda) cc) A out s H) [] [some (.ref a), some x] H s2 → Q .next s2) :
    wpAt (model P w) (A.deeper (PySem.W.ksEnv qual scope L f (.ref cda) cc)) (.func body' (PySem.W.ksEnv qual scope L f (.ref cda) cc)) (exec (.Expr (.Call (.Attribute (.Call (.Name "super" p0) [] [] p1) "__init__" p2) [e] [] p3) p4) (PySem.W.ksEnv qual scope L f (.ref cda) cc)) Q E s1 := by
  have quiet : interactive (PySem.W.ksEnv qual scope L f (.ref cda) cc) = false := I.quiet
  obtain ⟨oc, od, kV, doc, pm, an, ct, osl, lk⟩ := T.lk
  obtain ⟨ccl, cdd, vs, ccs, fl, tf, lc, hv2, hfl⟩ := T.file
  obtain ⟨cl, cld, csl, lcell⟩ := T.cell
  obtain ⟨nm, q, NN, bs, bm, sn, sub, ab, col, dd, k0, k1, k2, k3, k5, hC, hbm⟩ := T.o.cls
  obtain ⟨par0, hp0, hp1⟩ := Option.map_eq_some_iff.mp par
  have hcl : PySem.W.clsIn K C = some { name := nm, bases := bs, mro := .ref C :: bm, ns := NN, qualname := q, hasDict := true, slotNames := sn, subclasses := sub, abstract := ab, collection := col, hasDel := false } := by unfold PySem.W.clsIn; rw [hC] <;> rfl
  have kin : K.In s1.heap := I.kIn
  obtain ⟨mb, hmb, hbb⟩ := I.ok.mod.blt
  obtain ⟨t0, hoa⟩ := exo_at I.hok ha
  refine ks_wpAt_Expr_any (ks_wpAt_MethodCall (pl := pl) ?_ ht) quiet hs
  refine ks_wpAt_super_base (of := ⟨oc, od, .func (PySem.W.ksFn "__init__" qual params body scope .none kV doc pm an (.ref cda) ct cc), osl⟩) (fd := PySem.W.ksFn "__init__" qual params body scope .none kV doc pm an (.ref cda) ct cc) S.sup S.cls (by decide) rfl (kin _ _ lk) rfl hp0 rfl (kin _ _ lc) rfl hv2 hfl T.top ?_
  refine PySem.W.ks_loadName_global S.kind S.sup (PySem.Calls.loadGlobal_builtin (I.ok.mod.glob.keeps I.bk) T.noS (hmb.keeps I.bk) ((hbb _ (by decide +kernel)).trans (by decide +kernel : bootBuiltins "super" = some (.type "super"))) ⟨rfl, ?_⟩)
  refine wpAny_loadName_free S.kind S.cls rfl ⟨_, kin _ _ lcell, rfl⟩ ?_
  obtain ⟨m, hn, hl⟩ := id I.loc
  obtain ⟨u, ru, lu⟩ := hl 0 "self" (.ref a) rfl rfl (.inl S.slf)
  obtain rfl : u = Value.ref a := ru
  have mself : m "self" = some (.ref a) := by
    rcases lu with ⟨_, z⟩ | ⟨z, _⟩
    · exact z
    · have z' : scope.names.lookup ("self" : Str) = some .cell ∨ scope.names.lookup ("self" : Str) = some .free := z
      rw [S.slf] at z'
      rcases z' with z' | z' <;> cases z'
  rw [hp1]
  refine wpAny_loadName_local S.kind S.slf hn mself ?_
  obtain ⟨hp, g, d, t, os⟩ := s1
  refine ks_wpAny_isType_cls (kin _ _ hC) rfl ⟨rfl, ?_⟩
  have nX : ∀ c, ({ cls := .ref C, dict := none, data := .fields #[.ref t0, .none, .none, .none, .bool false, .none] } : Obj).data ≠ .cls c := fun c z => by cases z
  refine ks_wpAny_call_super (kin _ _ hC) rfl hoa rfl nX (PySem.W.looks_subIn kin T.sub1) fun h2 hso k2 => ?_
  have I2 := I.kept (t' := t) k2
  have kin2 : K.In h2 := I2.kIn
  have hoa2 := k2 _ _ hoa
  have aC : a ≠ C := fun z => by
    have y := kin2 _ _ hC
    rw [← z, hoa2] at y
    have z := congrArg Obj.data (Option.some.inj y)
    cases z
  have inV : PySem.W.Looks (model P w) h2 (isInstance (.ref a) (.type "ValueError")) true := (PySem.W.InstAt.type (ox := { cls := .ref C, dict := none, data := .fields #[.ref t0, .none, .none, .none, .bool false, .none] }) (od := none) ⟨hoa2, rfl, rfl, trivial⟩).andThen (PySem.W.looks_subIn kin2 T.subV)
  have sup := T.sup
  unfold PySem.W.ks_superIn at sup
  rw [hcl] at sup
  refine PySem.W.kxs_getMethod PySem.W.kxs_ValueError hso (PySem.W.looks_opaque kin2 T.opq) (fun A Q E s k q => wpAny_bind ((PySem.W.looks_clsIn kin2 hcl) A _ E s k (wpAny_pure q))) rfl kin2 sup inV aC (by decide) ?_
  have k3 : ∀ b o, h2.get? b = some o → (h2.push (PySem.W.kxs_mw "ValueError.__init__" a)).get? b = some o := fun b o z => Heap.get?_push_of_some _ z
  have I3 := I2.kept (t' := t + 1) k3
  have mw3 : (h2.push (PySem.W.kxs_mw "ValueError.__init__" a)).get? h2.objs.size = some (PySem.W.kxs_mw "ValueError.__init__" a) := Heap.get?_push_at rfl rfl
  have Hm : H h2.objs.size = none := I2.hok.fresh (Nat.le_refl _)
  have mL : h2.objs.size ≠ L := fun z => absurd I2.lt (by rw [← z]; exact Nat.lt_irrefl _)
  have pin : Inv (iniX P w K mg base [("self" : Str), arg] (PySem.W.ksEnv qual scope L f (.ref cda) cc) A out s H) [(h2.objs.size, PySem.W.kxs_mw "ValueError.__init__" a)] [some (.ref a), some x] H ⟨h2.push (PySem.W.kxs_mw "ValueError.__init__" a), g, d, t + 1, os⟩ := I3.pins_of fun p hp => by
    simp only [List.mem_singleton] at hp
    subst hp
    exact ⟨mw3, Hm, mL, I2.nofs (Nat.le_refl _), fun v z => by cases z⟩
  show wpAny _ _ (callWith p3 (Value.ref h2.objs.size) [] (backTo p3 (starEach [e] (PySem.W.ksEnv qual scope L f (.ref cda) cc))) []) _ _ _
  refine PySem.W.kxs_callWith (i := "ValueError.__init__") (x := a) (by rw [he]; rfl) ?_
  rw [he]
  have ev := pe.run _ _ _ _ (fun v H' => (∃ y, v = .str y) ∧ H' = H) pin (run _ fun y => ⟨⟨y, rfl⟩, rfl⟩)
  refine PySem.Calls.evalArgs_plain (PySem.Calls.spliced_cons (wpAny_mono (show wpAny (model P w) (A.deeper (PySem.W.ksEnv qual scope L f (.ref cda) cc)) (eval e (PySem.W.ksEnv qual scope L f (.ref cda) cc)) _ _ _ from ev) ?_ fun _ _ z => z.elim))
  rintro v s3 ⟨y, H', I4, rel, ⟨⟨z, rfl⟩, rfl⟩⟩
  refine PySem.Calls.spliced_nil ?_
  have mw4 := (I4.pin (h2.objs.size, PySem.W.kxs_mw "ValueError.__init__" a) (by simp)).1
  refine ⟨mw4, ?_⟩
  obtain ⟨t1, hoa4⟩ := exo_at I4.hok ha
  obtain ⟨h4, g4, d4, t4, os4⟩ := s3
  refine wpAny_call (codeAny_of_tree ?_)
  show wpAny _ (A.deeper (PySem.W.ksEnv qual scope L f (.ref cda) cc)).in1 (callAny (.ref h2.objs.size) ⟨[v], []⟩) _ _ _
  simp only [callAny]
  refine wpAny_bind (wpAny_load mw4 ?_)
  simp only [PySem.W.kxs_mw, show (Value.type "method-wrapper" == Value.type "method" || Value.type "method-wrapper" == Value.type "builtin_function_or_method" || Value.type "method-wrapper" == Value.type "method-wrapper") = true by decide, if_true]
  refine PySem.W.KFB.if_so (by decide) ?_
  have FB := PySem.F.excBase_ValueError
  refine wpAny_bind (PySem.W.check_bound_init FB.toExcCallFacts (I4.kIn _ _ hC) hoa4 rfl ?_)
  refine wpAny_bind (wpAny_pure (wpAny_pure ?_))
  refine ⟨PySem.plainId_quiet FB.init.plain _, codeAny_builtin FB.initEntry ?_⟩
  refine PySem.W.exc_init_tree (cls := .ref C) (t0 := t1) (dv := none) (c2 := .none) (c3 := .none) (b4 := .bool false) hoa4 (by show 1 ≤ sizeLine; rw [sizeLine_eq]; omega) fun h5 k5 e5 t5 => ?_
  have J := I4.write (t' := t4) (x := a) (e := a) (o := exo a C none) (by rw [ha]; exact True.intro) (.inl rfl) k5 ⟨_, e5⟩ (exo_ok e5)
  have eu : upd H' a (exo a C none) = H' := by
    funext b
    by_cases hb : b = a
    · rw [hb, upd_same, ha]
    · rw [upd_ne hb]
  rw [eu] at J
  exact h _ (J.pins_of fun p hp => by cases hp)

/-- a method call of one line, one argument -/
theorem meth_one {o e : Expr} {name : Str} {apos pos : Pos} {env : PySem.Env} (he : starEach [e] env = [(false, eval e env)]) (hl : (apos.endLine == pos.line) = true) : ∃ pl : Sem Bool, eval (.Call (.Attribute o name apos) [e] [] pos) env = (do
      let ov ← attributeBase o name env (eval o env)
      standAt apos.atName
      let (fv, first) ← holding [ov] (getMethod ov name pl)
      callWith pos fv first (backTo pos (starEach [e] env)) []) := by
  refine ⟨(do return (← importBound o env).getD true), ?_⟩
  rw [PySem.arm_eval_Call]
  have form : methodCallForm ([e].length + ([] : List Keyword).length) (backTo pos (starEach [e] env)) (backToKw pos (keywordEach [] env)) = true := by rw [he]; rfl
  have at_ : methodCallPos true o env apos pos = pure pos := by unfold methodCallPos; simp [hl]
  unfold methodCall
  simp only [form, at_, calleeOf, if_true, pure_bind]
  rfl
/-- such an __init__, as a def -/
theorem err_fn {e : Expr} {targ : TE} {p0 p1 p2 p3 p4 q1 q2 q3 q4 : Pos}
    (T : ErrTxt P K mg C f cc cda qual params [.Expr (.Call (.Attribute (.Call (.Name "super" p0) [] [] p1) "__init__" p2) [e] [] p3) p4, .Assign [.Attribute (.Name "self" q1) attr q2] (.Name arg q3) q4] scope attr) (S : IniScope arg scope)
    (par : (params.posonlyargs ++ params.args).head?.map (·.arg) = some ("self" : Str)) (hd1 : (arg == ("__debug__" : Str)) = false) (hd2 : (arg == ("__classdict__" : Str)) = false)
    (bi : ∀ (kV doc pm : Value) (an : Option Addr) (ct : Value) (us : List Value), us.length = 2 → bindArgs (PySem.W.ksFn "__init__" qual params [.Expr (.Call (.Attribute (.Call (.Name "super" p0) [] [] p1) "__init__" p2) [e] [] p3) p4, .Assign [.Attribute (.Name "self" q1) attr q2] (.Name arg q3) q4] scope .none kV doc pm an (.ref cda) ct cc) ⟨us, []⟩ = pure ([("self" : Str), arg].zip us))
    (pe : ∀ A out s H L, PE (iniX P w K mg base [("self" : Str), arg] (PySem.W.ksEnv qual scope L f (.ref cda) cc) A out s H) e targ) (run : ∀ (a : Addr) (x : V) (H : Hp) (Q : VK), Okx x → (∀ y, Q (.str y) H) → targ [some (.ref a), some x] H Q)
    (he : ∀ L, starEach [e] (PySem.W.ksEnv qual scope L f (.ref cda) cc) = [(false, eval e (PySem.W.ksEnv qual scope L f (.ref cda) cc))]) (hs : ∀ L, swapsWith (.Call (.Attribute (.Call (.Name "super" p0) [] [] p1) "__init__" p2) [e] [] p3) none p4.line (PySem.W.ksEnv qual scope L f (.ref cda) cc) = pure false)
    (ht : ∀ L, ∃ pl : Sem Bool, eval (.Call (.Attribute (.Call (.Name "super" p0) [] [] p1) "__init__" p2) [e] [] p3) (PySem.W.ksEnv qual scope L f (.ref cda) cc) = (do
      let ov ← attributeBase (.Call (.Name "super" p0) [] [] p1) "__init__" (PySem.W.ksEnv qual scope L f (.ref cda) cc) (eval (.Call (.Name "super" p0) [] [] p1) (PySem.W.ksEnv qual scope L f (.ref cda) cc))
      standAt p2.atName
      let (fv, first) ← holding [ov] (getMethod ov "__init__" pl)
      callWith p3 fv first (backTo p3 (starEach [e] (PySem.W.ksEnv qual scope L f (.ref cda) cc))) []))
    (hs2 : ∀ L, swapsWith (.Name arg q3) (some (.Attribute (.Name "self" q1) attr q2)) q4.line (PySem.W.ksEnv qual scope L f (.ref cda) cc) = pure false) :
    ∃ fd, FnOk P w K mg base CX0 2 f fd [("self" : Str), arg] (spErr C attr) ∧ Binds K fd [("self" : Str), arg] [] := by
  obtain ⟨oc, od, kV, doc, pm, an, ct, osl, lk⟩ := T.lk
  refine ⟨_, ⟨fun vs H Q E h => ?_, fun A outer s H ar us vs Q E room e0 bind rv h => ?_⟩, .all fun us hl => bi kV doc pm an ct us hl⟩
  · obtain ⟨a, x, rfl, _⟩ := h; rfl
  obtain ⟨a, x, rfl, okx, ha, k⟩ := h
  have inK : K.In s.heap := e0.mod.kin.keeps fun b o q => (e0.bs b o q).1
  have noL : s.heap.NoLimit := e0.mod.nolimit.keeps fun b o q => (e0.bs b o q).1
  refine ks_codeAny_call_defAt (room.depth) (inK _ _ lk) rfl noL (PySem.W.codeRec_of inK T.code) rfl bind S.cells (fun p hp => ?_) ?_ S.co S.gen S.kind
  · obtain ⟨y, u⟩ := p
    have m := (List.of_mem_zip hp).1
    simp only [List.mem_cons, List.not_mem_nil, or_false] at m
    rcases m with rfl | rfl
    · exact S.slf
    · exact S.ar
  intro h1 hn hk
  have I := ini_inv (cdv := .ref cda) (t' := s.toks + ([("self" : Str), arg].zip us).length) T S room.hd e0 rv hn hk
  obtain ⟨pl, ht⟩ := ht s.heap.objs.size
  refine ks_wpAt_execs_cons (super_init T S par I ha (pe A outer s H _) (fun Q q => run a x H Q okx q) (he _) (hs _) ht fun s2 I2 => ?_)
  have ps := pss_one (ps_ost (X := iniX P w K mg base [("self" : Str), arg] (PySem.W.ksEnv qual scope s.heap.objs.size f (.ref cda) cc) A outer s H) (pos := q4) (p' := q2) (f := attr) (pe_var (pos := q1) (i := 0) (x := "self") rfl (.inl S.slf)) (pe_var (pos := q3) (i := 1) (x := arg) rfl (.inl S.ar) hd1 hd2) (hs2 _))
  refine wpAt_of_wpAny (wpAny_mono (ps.run [] s2 _ H { nx := fun _ H' => Q .non H', rt := fun _ _ => False } I2 ?_) ?_ fun _ _ z => z.elim)
  · refine ⟨_, rfl, _, rfl, a, C, rfl, T.o, T.noA, .inl ⟨ha, k⟩⟩
  · intro fl s3 e3
    cases fl with
    | next => obtain ⟨_, H3, J, q⟩ := e3; exact ⟨.non, H3, J.os, J.bare, J.base, J.hok, rfl, q⟩
    | ret u => obtain ⟨_, _, _, _, _, q⟩ := e3; exact q.elim
    | brk => exact e3.choose_spec.choose_spec.2.elim
    | cont => exact e3.choose_spec.choose_spec.2.elim

end

/-! ### the text that such an __init__ makes -/
def rStr : List V → Hp → VK → Prop := fun xs H Q => (∃ i, xs = [.int i] ∧ i.natAbs.log2 < 1920 ∧ Q (.str (toString i)) H) ∨ ∃ a, xs = [.str a] ∧ Q (.str a) H
theorem call_strO {X : Cx} : CallR X (.type "str") rStr := by
  intro pins s σ H xs us Q I r h
  rcases h with h | h
  · exact call_str_int pins s σ H xs us Q I r h
  · exact SkE.call_str_str pins s σ H xs us Q I r h
def rCatS : R2 := fun x y H Q => ∃ i j, x = .str i ∧ y = .str j ∧ i.length + j.length ≤ sizeLine ∧ Q (.str (i ++ j)) H
theorem num_len {n : Nat} (h : n < 10 ^ 100) : (PySem.Str.ofString (toString (n : Int))).length ≤ 100 := by
  have e := TL.tl_num n
  have l := TL.numL_len (n := n) (k := 100) (by omega) h
  rw [← e] at l
  simpa [TL.tl, PySem.Str.length] using l
theorem num_log {n : Nat} (h : n < 10 ^ 100) : (n : Int).natAbs.log2 < 1920 := by
  rw [Int.natAbs_natCast]
  by_cases h0 : n = 0
  · subst h0; decide
  · exact (Nat.log2_lt h0).mpr (Nat.lt_of_lt_of_le h (by decide +kernel))
theorem okx_str {x : V} (h : Okx x) {H : Hp} {Q : VK} (k : ∀ t : Str, t.length ≤ 1000000 → Q (.str t) H) : rStr [x] H Q := by
  rcases h with ⟨t, rfl, h⟩ | ⟨n, rfl, h⟩
  · exact .inr ⟨t, rfl, k t h⟩
  · exact .inl ⟨n, rfl, num_log h, k _ (Nat.le_trans (num_len h) (by omega))⟩
section
variable {P : Program} {w : World} {K : PySem.W.Frag} {mg : Str → Option Value} {base : Heap} {C f cc cda : Addr} {qual : Str} {params : Arguments} {body : List Stmt} {scope : Scope} {attr arg : Str}
/-- str(x) in the __init__ -/
theorem pe_errS {A : Around} {out : List PySem.Env} {s : Shared} {H : Hp} {L : Addr} {r2 r3 r4 : Pos} (S : IniScope arg scope) (hstr : scope.names.lookup ("str" : Str) = some .globalImplicit) (hm : mg "str" = none) (hd1 : (arg == ("__debug__" : Str)) = false) (hd2 : (arg == ("__classdict__" : Str)) = false) :
    PE (iniX P w K mg base [("self" : Str), arg] (PySem.W.ksEnv qual scope L f (.ref cda) cc) A out s H) (.Call (.Name "str" r2) [.Name arg r3] [] r4) (tCB rStr (tCons (tVar 1) tNil)) :=
  pe_callTy call_strO hstr hm (by decide +kernel : bootBuiltins "str" = some (.type "str")) (pa_cons (pe_var (i := 1) rfl (.inl S.ar) hd1 hd2) pa_nil)
theorem run_errS {a : Addr} {x : V} {H : Hp} {Q : VK} (o : Okx x) (k : ∀ t : Str, t.length ≤ 1000000 → Q (.str t) H) : tCB rStr (tCons (tVar 1) tNil) [some (.ref a), some x] H Q := ⟨x, rfl, okx_str o k⟩
/-- an own error of the program -/
structure ErrX (P : Program) (w : World) (K : PySem.W.Frag) (mg : Str → Option Value) (base : Heap) (c : Str) : Prop where
  ex : ∃ C f fd ps, mg c = some (.ref C) ∧ OexC K C ∧ PySem.W.findIn K (.ref C) "__init__" = some (some (.ref f)) ∧ PySem.W.typeIn K (.ref f) = some (.type "function") ∧ FnOk P w K mg base CX0 2 f fd ps (spErr C (excAttr c)) ∧ Binds K fd ps []
/-- text + str(x) -/
theorem err_one {c t : Str} {j : Nat} {p0 p1 p2 p3 p4 q1 q2 q3 q4 r1 r2 r3 r4 r5 : Pos}
    (T : ErrTxt P K mg C f cc cda qual params [.Expr (.Call (.Attribute (.Call (.Name "super" p0) [] [] p1) "__init__" p2) [.BinOp (.Constant (.str t) j r1) .Add (.Call (.Name "str" r2) [.Name arg r3] [] r4) r5] [] p3) p4, .Assign [.Attribute (.Name "self" q1) attr q2] (.Name arg q3) q4] scope attr)
    (hC : mg c = some (.ref C)) (ea : excAttr c = attr) (S : IniScope arg scope) (hstr : scope.names.lookup ("str" : Str) = some .globalImplicit) (ht : t.length ≤ 1000) (par : (params.posonlyargs ++ params.args).head?.map (·.arg) = some ("self" : Str)) (hd1 : (arg == ("__debug__" : Str)) = false) (hd2 : (arg == ("__classdict__" : Str)) = false) (hl : (p2.endLine == p3.line) = true)
    (bi : ∀ (kV doc pm : Value) (an : Option Addr) (ct : Value) (us : List Value), us.length = 2 → bindArgs (PySem.W.ksFn "__init__" qual params [.Expr (.Call (.Attribute (.Call (.Name "super" p0) [] [] p1) "__init__" p2) [.BinOp (.Constant (.str t) j r1) .Add (.Call (.Name "str" r2) [.Name arg r3] [] r4) r5] [] p3) p4, .Assign [.Attribute (.Name "self" q1) attr q2] (.Name arg q3) q4] scope .none kV doc pm an (.ref cda) ct cc) ⟨us, []⟩ = pure ([("self" : Str), arg].zip us)) : ErrX P w K mg base c := by
  obtain ⟨fd, h1, h2⟩ := err_fn (P := P) (w := w) (base := base) T S par hd1 hd2 bi (fun A out s H L => pe_op op_add_str pe_str (pe_errS S hstr T.noStr hd1 hd2)) (fun a x H Q o k => run_errS o fun y hy => ⟨t, y, rfl, rfl, by rw [sizeLine_eq]; omega, k _⟩) (fun _ => rfl) (fun _ => rfl) (fun _ => meth_one rfl hl) (fun _ => rfl)
  exact ⟨C, f, fd, _, hC, T.o, T.init, T.tyf, ea ▸ h1, h2⟩
/-- text + str(x) + text -/
theorem err_two {c t t2 : Str} {j j2 : Nat} {p0 p1 p2 p3 p4 q1 q2 q3 q4 r1 r2 r3 r4 r5 r6 r7 : Pos}
    (T : ErrTxt P K mg C f cc cda qual params [.Expr (.Call (.Attribute (.Call (.Name "super" p0) [] [] p1) "__init__" p2) [.BinOp (.BinOp (.Constant (.str t) j r1) .Add (.Call (.Name "str" r2) [.Name arg r3] [] r4) r5) .Add (.Constant (.str t2) j2 r6) r7] [] p3) p4, .Assign [.Attribute (.Name "self" q1) attr q2] (.Name arg q3) q4] scope attr)
    (hC : mg c = some (.ref C)) (ea : excAttr c = attr) (S : IniScope arg scope) (hstr : scope.names.lookup ("str" : Str) = some .globalImplicit) (ht : t.length ≤ 1000) (ht2 : t2.length ≤ 1000) (par : (params.posonlyargs ++ params.args).head?.map (·.arg) = some ("self" : Str)) (hd1 : (arg == ("__debug__" : Str)) = false) (hd2 : (arg == ("__classdict__" : Str)) = false) (hl : (p2.endLine == p3.line) = true)
    (bi : ∀ (kV doc pm : Value) (an : Option Addr) (ct : Value) (us : List Value), us.length = 2 → bindArgs (PySem.W.ksFn "__init__" qual params [.Expr (.Call (.Attribute (.Call (.Name "super" p0) [] [] p1) "__init__" p2) [.BinOp (.BinOp (.Constant (.str t) j r1) .Add (.Call (.Name "str" r2) [.Name arg r3] [] r4) r5) .Add (.Constant (.str t2) j2 r6) r7] [] p3) p4, .Assign [.Attribute (.Name "self" q1) attr q2] (.Name arg q3) q4] scope .none kV doc pm an (.ref cda) ct cc) ⟨us, []⟩ = pure ([("self" : Str), arg].zip us)) : ErrX P w K mg base c := by
  obtain ⟨fd, h1, h2⟩ := err_fn (P := P) (w := w) (base := base) T S par hd1 hd2 bi (fun A out s H L => pe_op op_add_str (pe_op op_add_str pe_str (pe_errS S hstr T.noStr hd1 hd2)) pe_str)
    (fun a x H Q o k => run_errS o fun y hy => ⟨t, y, rfl, rfl, by rw [sizeLine_eq]; omega, t ++ y, t2, rfl, rfl, by rw [sizeLine_eq, PySem.Str.length_append]; omega, k _⟩) (fun _ => rfl) (fun _ => rfl) (fun _ => meth_one rfl hl) (fun _ => rfl)
  exact ⟨C, f, fd, _, hC, T.o, T.init, T.tyf, ea ▸ h1, h2⟩
end

/-! ### raise -/
def okD : D → Bool
  | .str t => decide (t.length ≤ 1000000)
  | .int i => decide (0 ≤ i ∧ i < 10 ^ 100)
  | _ => false
def raiseS (c : Str) (f : Ex) : Sx := fun δ => (f δ).out fun r δ1 => match frz r δ1 with
  | some (x, δ2) => if okD x then .ex c x δ2 else .bad
  | none => .bad
theorem okD_x {K : PySem.W.Frag} {mg : Str → Option Value} {F : Hp} {v : V} {x : D} (h : Fz K mg F v x) (o : okD x = true) : Okx v := by
  cases x with
  | str t => cases h; exact .inl ⟨t, rfl, by simpa [okD] using o⟩
  | int i =>
    cases h
    simp only [okD, decide_eq_true_eq] at o
    refine .inr ⟨i.toNat, by rw [Int.toNat_of_nonneg o.1], ?_⟩
    have := o.2
    omega
  | _ => cases o
section
variable {X : Cx} {W : WX} {S : List Nat} {e : Expr} {fa : Ex} {ta : TE} {c : Str} {k : Nat} {p p1 pos : Pos}
theorem ds_raise (g : ErrX X.prog X.w X.K X.mg X.base c) (cx : Ctx X k) (tk : Takes X W) (ha : DE X W e ta fa) (hk : 3 ≤ k := by decide) (hg : Gl X c := by rfl) (hdb : (c == ("__debug__" : Str)) = false := by decide)
    (he : starEach [e] X.env = (false, eval e X.env) :: starEach [] X.env := by rfl) : DS X W S (.Raise (some (.Call (.Name c p) [e] [] p1)) none pos) (raiseS c fa) := by
  obtain ⟨C, f, fd, ps, hm, T, i1, i2, F, bi⟩ := g.ex
  refine ⟨_, ps_raise cx.calm tk (pmk_oex (ds := []) (dvs := []) T i1 i2 F (cx.room.mono hk) bi .nil (fun _ _ _ _ _ _ _ z => (show False from z).elim) hg hm (pa_cons ha.pe pa_nil he) hdb he rfl), ⟨fun σ H F0 L δ P D R h => ?_⟩⟩
  simp only [raiseS] at h
  cases q : fa δ with
  | bad => rw [q] at h; exact h.elim
  | ex c2 a2 δ1 =>
    rw [q] at h
    exact ha.mn.ex σ H F0 L δ P c2 a2 δ1 _ R q fun cls d H1 F1 P1 p1 R1 x => h σ cls d H1 F1 P1 Agree.refl p1 R1 x
  | ok r δ1 =>
    rw [q] at h
    simp only [Re.out] at h
    cases q2 : frz r δ1 with
    | none => rw [q2] at h; exact h.elim
    | some y =>
      obtain ⟨x, δ2⟩ := y
      rw [q2] at h
      simp only at h
      split at h
      · rename_i ok
        refine ha.mn.ok σ H F0 L δ P r δ1 _ R q fun v H1 F1 P1 p1 R1 rs => ?_
        obtain ⟨F2, P2, p2, R2, hz⟩ := R1.freeze rs q2
        refine ⟨by simp, fun a na => ⟨a, v, rfl, okD_x hz ok, upd_same, fun dx nd ne => ⟨rfl, dx, [(excAttr c, v)], upd_same, ?_, ?_, ?_⟩⟩⟩
        · rw [upd_ne ne, upd_same]
        · have := nd
          rw [upd_ne ne] at this
          exact this
        · have nd' : H1 dx = none := by
            have := nd
            rw [upd_ne ne] at this
            exact this
          have eH : upd (del (upd (upd (upd H1 a (exo a C none)) dx (exd dx [(excAttr c, v)])) a (exo a C (some dx))) a) dx (.xd [(excAttr c, v)]) = upd H1 dx (.xd [(excAttr c, v)]) := by
            funext b
            by_cases hb : b = dx
            · subst hb; rw [upd_same, upd_same]
            · rw [upd_ne hb, upd_ne hb]
              by_cases hba : b = a
              · subst hba; rw [del_same, na]
              · rw [del_ne hba, upd_ne hba, upd_ne hb, upd_ne hba]
          rw [eH]
          have gr := Grow.upd (o := HO.xd [(excAttr c, v)]) R2.sub nd'
          exact h σ (.ref C) (some dx) _ _ P2 Agree.refl ((p1.trans p2).trans gr.post) (R2.grow gr) ⟨C, dx, v, rfl, hm, rfl, upd_same, hz.mono gr.mono⟩
      · exact h.elim
end
end Dl

/-! DlY: try .. except X as e: the error that a suite holds; isinstance of it, its attribute; defs that a suite calls. -/
namespace Dl
open PySem L2

/-! ### the class of an error that has a dict -/
section
open PySem.W PySem.Calls PyProof.Rows
variable {prog : Program} {w : World} {A : Around} {E : Value → Shared → Prop} {st : Shared} {K : Frag} {er Cl : Addr} {oer : Obj} {odi : Option Obj}
theorem err_class (T : ExcC K Cl) (kin : K.In st.heap) (J : InstAt st.heap er oer Cl odi) {Q : Option Value → Shared → Prop} (fin : Q (some (.ref Cl)) { st with toks := st.toks + 1 }) : wpAny (model prog w) A (getAttr? (.ref er) "__class__") Q E st := by
  have isC : (clsIn K Cl).isSome = true := by obtain ⟨c0, e0, _⟩ := any_some T.hd; rw [e0]; rfl
  have fnd : findObj K Cl odi "__class__" = some (.bind (.builtin "getset_descriptor.__get__") (.builtin "object.__class__")) := by
    obtain ⟨c0, e0⟩ := Option.isSome_iff_exists.mp isC
    unfold findObj
    rw [e0, Option.bind_some, T.ha, Option.bind_some]
    simp [T.hn, T.ht]
  obtain ⟨hp, gn, dr, tk, os⟩ := st
  have lT := J.type (M := model prog w)
  have lG := looks_findIn (M := model prog w) kin T.hg
  have lA := looks_findIn (M := model prog w) kin T.hk
  have lF := looks_find (M := model prog w) kin J fnd
  have isB : Looks (model prog w) hp (isInstance (.ref er) (.type "BaseException")) true := lT.andThen (looks_subIn kin T.hs)
  have own : (Value.builtin "BaseException.__getattribute__" == Value.builtin "object.__getattribute__") = false := by decide +kernel
  have own2 : (onTheHeap (Value.ref Cl) && Value.builtin "BaseException.__getattribute__" == Value.builtin "object.__getattribute__") = false := by rw [own]; rfl
  unfold getAttr? getAttrBy? getAttrBy
  refine wpAny_bind (wpAny_mkText (wpAny_bind (wpAny_attempt (wpAny_holding (wpAny_bind (lT.at (wpAny_bind (lG.at ?_))))))))
  show wpAny _ _ (ite ((onTheHeap (Value.ref Cl) && Value.builtin "BaseException.__getattribute__" == Value.builtin "object.__getattribute__") = true) _ _) _ _ _
  rw [own2, if_neg Bool.false_ne_true]
  unfold getAttrByItsOwn hookBefore
  refine wpAny_bind ?_
  have oh : onTheHeap (Value.ref Cl) = true := rfl
  rw [if_pos oh]
  refine lA.at (wpAny_bind (wpAny_attempt (wpAny_holding ?_)))
  unfold callGetattribute
  have o2 : (false && onTheHeap (Value.builtin "BaseException.__getattribute__")) = false := rfl
  rw [o2, if_neg Bool.false_ne_true]
  unfold boundAndCalled
  rw [F.excAttr_ValueError.ga.bind (.ref er)]
  refine wpAny_bind (wpAny_pure ?_)
  show wpAny _ _ (PySem.call (Value.builtin "BaseException.__getattribute__") [Value.ref er, Value.str "__class__" tk]) _ _ _
  refine wpAny_call (codeAny_call_builtin F.excAttr_ValueError.ga.plain F.entry_bexc_ga (@check_slot (model prog w) _ _ ⟨hp, gn, dr, tk + 1, os⟩ "BaseException.__getattribute__" "BaseException" "__getattribute__" (.ref er) [.str "__class__" tk] [] _ (by decide +kernel) (by decide +kernel) isB (F.args_bexc_ga (.ref er) (.str "__class__" tk)) ?_))
  unfold Builtin.«object.__getattribute__»
  refine wpAny_bind (wpAny_of_eq (a := ((Value.ref er : Value), [Value.str "__class__" tk])) (by first | rfl | (simp only [slotArgs]; rfl)) ?_)
  refine wpAny_bind (wpAny_pure (wpAny_bind (lT.at (wpAny_bind (lF.at (wpAny_bind (wpAny_holding (wpAny_call (class_get (s := ⟨hp, gn, dr, tk + 1, os⟩) kin J T.hm ?_)))))))))
  refine wpAny_pure ?_
  show wpAny _ _ (handedOut (.ref Cl)) _ _ _
  rw [handedOut_of (v := .ref Cl) rfl]
  first
    | exact wpAny_pure (wpAny_pure fin)
    | exact wpAny_pure fin
    | exact wpAny_pure (wpAny_bind (wpAny_pure (wpAny_pure fin)))
theorem err_kit (T : ExcC K Cl) : KitX K (.ref er) (.ref Cl) (fun h => ∃ oer odi, InstAt h er oer Cl odi) where
  ty := fun _ _ _ ⟨_, _, J⟩ => J.type
  it := fun _ _ kin _ => by
    obtain ⟨c0, e0, _⟩ := any_some T.hd
    unfold clsIn at e0
    split at e0
    · rename_i _ _ _ _ at_
      exact fun A' Q' E' s' k q => by
        unfold isType loadHead
        exact wpAny_bind (wpAny_loadPart (k _ _ (kin _ _ at_)) (wpAny_pure q))
    · cases e0
  ne := fun h tp dd its n sl kin tup => by
    obtain ⟨c0, e0, _⟩ := any_some T.hd
    refine Bool.eq_false_iff.mpr fun q => ?_
    obtain rfl : Cl = tp := Value.ref.inj (beq_iff_eq.mp q)
    unfold clsIn at e0
    split at e0
    · rename_i _ _ _ _ at_
      cases (kin _ _ at_).symm.trans tup
    · cases e0
  ca := fun kin ⟨_, _, J⟩ k => err_class T kin J k
end

/-! ### the errors of a program -/
structure ErrC (K : PySem.W.Frag) (mg : Str → Option Value) (c : Str) (C : Addr) : Prop where
  hm : mg c = some (.ref C)
  e : ExcC K C
  noA : PySem.W.findIn K (.ref C) (excAttr c) = some none
/-- cs: the names of the classes below MemoryFault -/
structure ErrTab (K : PySem.W.Frag) (mg : Str → Option Value) (cs : List Str) : Prop where
  at_ : ∀ c ∈ cs, ∃ C, ErrC K mg c C ∧ (∀ c' ∈ cs, ∀ C', mg c' = some (.ref C') → PySem.W.kitOne K (.ref C) (.ref C') = some (decide (c = c'))) ∧ PySem.W.kitOne K (.ref C) (.type "ValueError") = some true ∧ ∃ M, mg "MemoryFault" = some (.ref M) ∧ PySem.W.exmOne K (.ref C) (.ref M) = some true
  noV : mg "ValueError" = none
/-- the context Y holds the error of class c at a, its dict at dd -/
structure Held (Y : Cx) (c : Str) (a dd : Addr) : Prop where
  ex : ∃ oe C vs, (a, oe) ∈ Y.pn ∧ ErrC Y.K Y.mg c C ∧ Zc (.ref C) (some dd) oe ∧ oe.data = .fields vs
def unE : D → Option (Int × Int × Str × D)
  | .dict [(.none, .list [.int a, .int dd, .str c, x])] => some (a, dd, c, x)
  | _ => none
theorem unE_exc {a dd : Addr} {c : Str} {x : D} : unE (excD a dd c x) = some ((a : Int), (dd : Int), c, x) := rfl
theorem unE_of {d x : D} {a dd : Int} {c : Str} (h : unE d = some (a, dd, c, x)) : d = .dict [(.none, .list [.int a, .int dd, .str c, x])] := by
  unfold unE at h
  split at h
  · cases h; rfl
  · cases h
theorem kD_none (k : Key) : kD k ≠ .none := by cases k <;> simp [kD]
theorem Fz.exc_inv {K : PySem.W.Frag} {mg : Str → Option Value} {F : Hp} {v : V} {a dd : Int} {c : Str} {x : D} (h : Fz K mg F v (.dict [(.none, .list [.int a, .int dd, .str c, x])])) : ∃ (a' dd' : Addr) (w : V), a = a' ∧ dd = dd' ∧ v = .ref a' ∧ F dd' = some (.xd [(excAttr c, w)]) ∧ Fz K mg F w x := by
  generalize e : (PyData.dict [(PyData.none, PyData.list [.int a, .int dd, .str c, x])]) = d at h
  cases h with
  | dk h1 h2 h3 =>
    rename_i kvs ks ds
    cases ks with
    | nil => simp at e
    | cons k ks =>
      cases ds with
      | nil => simp at e
      | cons d ds =>
        simp only [List.map_cons, List.zip_cons_cons, PyData.dict.injEq, List.cons.injEq, Prod.mk.injEq] at e
        exact absurd e.1.1.symm (kD_none k)
  | dt h1 h2 h3 =>
    rename_i kvs ks ds
    cases ks with
    | nil => simp at e
    | cons k ks =>
      cases ds with
      | nil => simp at e
      | cons d ds => simp [tkD] at e
  | fn h => simp [fnD] at e
  | exc h1 h2 =>
    simp only [excD, PyData.dict.injEq, List.cons.injEq, Prod.mk.injEq, true_and, and_true, PyData.list.injEq, PyData.int.injEq, PyData.str.injEq] at e
    obtain ⟨e1, e2, e3, e4⟩ := e
    subst e3 e4
    exact ⟨_, _, _, e1, e2, rfl, h1, h2⟩
  | _ => cases e
def subE (c cls : Str) : Bool := if cls = "ValueError" then true else decide (c = cls)
def isXE (cs : List Str) (a0 dd0 : Addr) (c0 : Str) (i : Nat) (cls : Str) : Ex := fun δ => if c0 ∈ cs then match δ.getD i none with
  | some (.d d) => (match unE d with
    | some (a, dd, c, _) => if a = a0 ∧ dd = dd0 ∧ c = c0 then .ok (.d (.bool (subE c0 cls))) δ else .bad
    | none => .bad)
  | _ => .bad
  else .bad
def atXE (a0 dd0 : Addr) (c0 : Str) (i : Nat) (f : Str) : Ex := fun δ => match δ.getD i none with
  | some (.d d) => (match unE d with
    | some (a, dd, c, x) => if a = a0 ∧ dd = dd0 ∧ c = c0 ∧ f = excAttr c0 then .ok (.d x) δ else .bad
    | none => .bad)
  | _ => .bad
/-- isinstance of a held error -/
def rIsX (K : PySem.W.Frag) (C a dd : Addr) (f : Str) : List V → Hp → VK → Prop := fun xs H Q => ∃ (c : V) (cv : Value) (b : Bool) (w : V), xs = [.ref a, c] ∧ (∀ u, RelV c u → u = cv) ∧ PySem.W.kitOne K (.ref C) cv = some b ∧ H dd = some (.xd [(f, w)]) ∧ Q (.bl b) H
section
variable {Y : Cx} {W : WX} {C a dd : Addr} {oe : Obj} {f : Str}
theorem held_at {pins : List (Addr × Obj)} {σ : St} {H : Hp} {s : Shared} {w : V} {vs : Array Value} (m : (a, oe) ∈ Y.pn) (z : Zc (.ref C) (some dd) oe) (hv : oe.data = .fields vs) (I : Inv Y pins σ H s) (hd : H dd = some (.xd [(f, w)])) :
    ∃ (od : Obj) (mA : Str → Option Value), PySem.W.InstAt s.heap a oe C (some od) ∧ (∀ g, RelO (([(f, w)] : List (Str × V)).lookup g) (mA g)) ∧ ∀ g, PySem.W.lookIn g od = some (mA g) := by
  obtain ⟨at_, _⟩ := I.pin (a, oe) (List.mem_append_left _ m)
  have x : ObjOk Y.prog Y.w H s.heap dd (.xd [(f, w)]) := I.hok dd _ hd
  obtain ⟨mA, ns, rel⟩ := x
  obtain ⟨od, ho, hl⟩ := lookIn_ns ns
  exact ⟨od, mA, ⟨at_, z.1, by unfold PySem.W.notCls; rw [hv] <;> rfl, by rw [z.2]; exact ho⟩, rel, hl⟩
theorem call_isX {vs : Array Value} (m : (a, oe) ∈ Y.pn) (T : ExcC Y.K C) (z : Zc (.ref C) (some dd) oe) (hv : oe.data = .fields vs) : CallR Y (.builtin "isinstance") (rIsX Y.K C a dd f) := by
  intro pins s σ H xs us Q I r h
  obtain ⟨c, cv, b, w, rfl, hcv, e, hd, q⟩ := h
  obtain ⟨u1, u2, rfl, rx, rc⟩ := vals2 r
  obtain rfl : u1 = Value.ref a := rx
  obtain rfl := hcv _ rc
  obtain ⟨od, mA, J, _⟩ := held_at m z hv I hd
  exact PySem.W.kia_one (err_kit T) I.kIn ⟨_, _, J⟩ e (fun z => nomatch z) fun tk => ⟨.bl b, H, I.kept (t' := tk) fun _ _ z => z, rfl, q⟩
/-- e.f of a held error -/
def tAtX (a dd : Addr) (f : Str) (te : TE) : TE := fun σ H Q => te σ H fun x H1 => x = .ref a ∧ ∃ w, H1 dd = some (.xd [(f, w)]) ∧ Q w H1
theorem pe_atX {vs : Array Value} {e : Expr} {te : TE} {pos : Pos} (m : (a, oe) ∈ Y.pn) (T : ExcC Y.K C) (noA : PySem.W.findIn Y.K (.ref C) f = some none) (z : Zc (.ref C) (some dd) oe) (hv : oe.data = .fields vs) (he : PE Y e te) (hb : attributeBase e f Y.env (eval e Y.env) = eval e Y.env := by rfl) :
    PE Y (.Attribute e f pos) (tAtX a dd f te) := by
  refine ⟨fun pins s σ H Q I h => attr_of hb (thn (he.run pins s σ H _ I h) ?_)⟩
  rintro u s1 ⟨x, H1, I1, rx, rfl, w, hd, q⟩
  obtain rfl : u = Value.ref a := rx
  obtain ⟨od, mA, J, rel, lk⟩ := held_at m z hv I1 hd
  have l : ([(f, w)] : List (Str × V)).lookup f = some w := by simp [List.lookup]
  obtain ⟨u, hu, ru⟩ := RelO.some_of (v := w) (o := mA f) (by rw [← l]; exact rel f)
  exact HandSPX.exc_get I1.kIn J T.hg T.hk T.hs (PySem.W.findObj_own T.hd noA rfl (by rw [lk, hu])) (handed_of ru) ⟨w, H1, I1.tok _, ru, q⟩
end
section
variable {Y : Cx} {W : WX} {c x cls f : Str} {a dd : Addr} {i : Nat} {cs : List Str} {pos p p1 p2 : Pos}
theorem isX_of {K : PySem.W.Frag} {mg : Str → Option Value} {F : Hp} {v : V} {d : D} {r : Rs} {δ δ' : Env} (hz : Fz K mg F v d) (e : (match unE d with
    | some (a1, dd1, c1, _) => if a1 = a ∧ dd1 = dd ∧ c1 = c then Re.ok (.d (.bool (subE c cls))) δ else .bad
    | none => .bad) = .ok r δ') : r = .d (.bool (subE c cls)) ∧ δ' = δ ∧ v = .ref a ∧ ∃ w, F dd = some (.xd [(excAttr c, w)]) := by
  cases q : unE d with
  | none => rw [q] at e; cases e
  | some t =>
    obtain ⟨a1, dd1, c1, x1⟩ := t
    rw [q] at e
    simp only at e
    split at e
    · rename_i h
      obtain ⟨rfl, rfl, rfl⟩ := h
      cases e
      rw [unE_of q] at hz
      obtain ⟨a', dd', w, e1, e2, rfl, h1, h2⟩ := hz.exc_inv
      have e1 : a = a' := Int.ofNat_inj.mp e1
      have e2 : dd = dd' := Int.ofNat_inj.mp e2
      subst e1 e2
      exact ⟨rfl, rfl, rfl, w, h1⟩
    · cases e
theorem mn_isX {C : Addr} {cV : V} {cv : Value} (hcv : ∀ u, RelV cV u → u = cv) (hk : PySem.W.kitOne Y.K (.ref C) cv = some (subE c cls)) : MnE Y.K Y.mg W (tCB (rIsX Y.K C a dd (excAttr c)) (tCons (tVar i) (tCons (tC cV) tNil))) (isXE cs a dd c i cls) where
  ok := fun σ H F L δ P r δ' Q R e k => by
    simp only [isXE] at e
    split at e
    rotate_left 1
    · cases e
    cases q : δ.getD i none with
    | none => rw [q] at e; cases e
    | some t =>
      rw [q] at e
      cases t with
      | d x =>
        obtain ⟨v, h1, h2⟩ := R.at_ i _ q
        obtain ⟨rfl, rfl, rfl, w, hw⟩ := isX_of h2.1 e
        exact ⟨_, getD_some h1, _, _, _, w, rfl, hcv, hk, R.sub _ _ hw, k _ H F P Post.refl R (.bl _)⟩
      | _ => cases e
  ex := fun σ H F L δ P c1 a1 δ' Q R e k => by
    simp only [isXE] at e
    split at e
    rotate_left 1
    · cases e
    split at e
    · split at e
      · split at e <;> cases e
      · cases e
    · cases e
theorem de_isExc (h : Held Y c a dd) (T : ErrTab Y.K Y.mg cs) (hN : Y.N[i]? = some x) (hcl : cls = "ValueError" ∨ cls ∈ cs) (hm : Y.mg "isinstance" = none) (hg : Gl Y "isinstance" := by rfl) (hg2 : Gl Y cls := by rfl) (hdc : (cls == ("__debug__" : Str)) = false := by decide) (hv : Vis Y.env.scope x := by first | exact Or.inl rfl | exact Or.inr (Or.inl rfl) | exact Or.inr (Or.inr rfl)) (hd : (x == ("__debug__" : Str)) = false := by decide) (hcd : (x == ("__classdict__" : Str)) = false := by decide)
    (hs : starEach [.Name x p1, .Name cls p2] Y.env = (false, eval (.Name x p1) Y.env) :: starEach [.Name cls p2] Y.env := by rfl) (hs2 : starEach [.Name cls p2] Y.env = (false, eval (.Name cls p2) Y.env) :: starEach [] Y.env := by rfl) (hpl : (backTo pos (starEach [.Name cls p2] Y.env)).any (·.1) = false := by rfl) :
    ∃ t, DE Y W (.Call (.Name "isinstance" p) [.Name x p1, .Name cls p2] [] pos) t (isXE cs a dd c i cls) := by
  by_cases hc : c ∈ cs
  rotate_left 1
  · exact ⟨fun _ _ _ => False, ⟨fun _ _ _ _ _ _ z => z.elim⟩, ⟨fun σ H F L δ P r δ' Q R e k => by simp [isXE, hc] at e, fun σ H F L δ P r a δ' Q R e k => by simp [isXE, hc] at e⟩⟩
  obtain ⟨oe, C, vs, m, ec, z, hv'⟩ := h.ex
  obtain ⟨C1, ec1, kit, kV, _⟩ := T.at_ c hc
  obtain rfl : C = C1 := by
    have := ec.hm.symm.trans ec1.hm
    cases this
    rfl
  have bi : bootBuiltins "isinstance" = some (.builtin "isinstance") := by decide +kernel
  by_cases hV : cls = "ValueError"
  · subst hV
    exact ⟨_, pe_callB (call_isX m ec.e z hv') hg hm bi (pa_cons (pe_var hN hv hd hcd) (pa_cons (pe_bltn (v := .ty "ValueError") hg2 T.noV (by decide +kernel : bootBuiltins "ValueError" = some (.type "ValueError")) rfl) pa_nil hs2) hs) (by decide) (by decide) hs hpl,
      mn_isX (fun u r => r) kV⟩
  · have hcl := hcl.resolve_left hV
    obtain ⟨C2, ec2, _⟩ := T.at_ cls hcl
    have kk := kit cls hcl C2 ec2.hm
    refine ⟨_, pe_callB (call_isX m ec.e z hv') hg hm bi (pa_cons (pe_var hN hv hd hcd) (pa_cons (pe_glob (v := .ref C2) hg2 ec2.hm rfl hdc) pa_nil hs2) hs) (by decide) (by decide) hs hpl, mn_isX (fun u r => r) ?_⟩
    rw [kk]
    unfold subE
    rw [if_neg hV]
theorem de_excAt (h : Held Y c a dd) (hN : Y.N[i]? = some x) (hv : Vis Y.env.scope x := by first | exact Or.inl rfl | exact Or.inr (Or.inl rfl) | exact Or.inr (Or.inr rfl)) (hd : (x == ("__debug__" : Str)) = false := by decide) (hcd : (x == ("__classdict__" : Str)) = false := by decide)
    (hb : attributeBase (.Name x p1) f Y.env (eval (.Name x p1) Y.env) = eval (.Name x p1) Y.env := by rfl) : ∃ t, DE Y W (.Attribute (.Name x p1) f pos) t (atXE a dd c i f) := by
  by_cases hf : f = excAttr c
  rotate_left 1
  · refine ⟨fun _ _ _ => False, ⟨fun _ _ _ _ _ _ z => z.elim⟩, ⟨fun σ H F L δ P r δ' Q R e k => ?_, fun σ H F L δ P r a δ' Q R e k => ?_⟩⟩
    · simp only [atXE, hf, and_false, if_false] at e
      split at e
      · split at e <;> cases e
      · cases e
    · simp only [atXE, hf, and_false, if_false] at e
      split at e
      · split at e <;> cases e
      · cases e
  obtain ⟨oe, C, vs, m, ec, z, hv'⟩ := h.ex
  subst hf
  refine ⟨_, pe_atX m ec.e ec.noA z hv' (pe_var hN hv hd hcd) hb, ⟨fun σ H F L δ P r δ' Q R e k => ?_, fun σ H F L δ P c1 a1 δ' Q R e k => ?_⟩⟩
  · simp only [atXE, and_true] at e
    cases q : δ.getD i none with
    | none => rw [q] at e; cases e
    | some t =>
      rw [q] at e
      cases t with
      | d d =>
        simp only at e
        obtain ⟨v, h1, h2⟩ := R.at_ i _ q
        cases q2 : unE d with
        | none => rw [q2] at e; cases e
        | some t =>
          obtain ⟨a1, dd1, c1, x1⟩ := t
          rw [q2] at e
          simp only at e
          split at e
          · rename_i h
            obtain ⟨rfl, rfl, rfl⟩ := h
            cases e
            have hz := h2.1
            rw [unE_of q2] at hz
            obtain ⟨a', dd', w, e1, e2, rfl, h3, h4⟩ := hz.exc_inv
            have e1 : a = a' := Int.ofNat_inj.mp e1
            have e2 : dd = dd' := Int.ofNat_inj.mp e2
            subst e1 e2
            exact ⟨_, getD_some h1, rfl, w, R.sub _ _ h3, k w H F P Post.refl R h4⟩
          · cases e
      | _ => cases e
  · simp only [atXE] at e
    split at e
    · split at e
      · split at e <;> cases e
      · cases e
    · cases e
end

/-! ### defs that a suite calls with the error that it holds -/
/-- p is an error of class c -/
def ErrPin (K : PySem.W.Frag) (mg : Str → Option Value) (c : Str) (dd : Addr) (p : Addr × Obj) : Prop := ∃ C vs, ErrC K mg c C ∧ Zc (.ref C) (some dd) p.2 ∧ p.2.data = .fields vs
structure FnWg (P : Program) (w : World) (K : PySem.W.Frag) (mg : Str → Option Value) (base : Heap) (k : Nat) (f : Addr) (fd : FuncData) (ps : List Str) (sp : Addr → Addr → Str → Sp) : Prop where
  wide : ∀ {a dd : Addr} {c : Str} {vs : List V} {H : Hp} {Q : VK} {E : XK}, sp a dd c vs H Q E → vs.length = ps.length
  go : ∀ {A : Around} {out : List PySem.Env} {s : Shared} {H : Hp} {ar : Args} {us : List Value} {vs : List V} {Q : VK} {a dd : Addr} {oe : Obj} {c : Str}, L2H.RoomH k A → A.guards = some [] → L2H.PinOk out H s (a, oe) → ErrPin K mg c dd (a, oe) → Env0 P w K mg base A out s H →
    BindsTo s fd ar (ps.zip us) → Vals vs us → sp a dd c vs H Q E0 → codeAny (model P w) A (.call (.ref f) ar) (CR CX0 out P w H s Q E0) s
structure FnW (P : Program) (w : World) (K : PySem.W.Frag) (mg : Str → Option Value) (base : Heap) (x : Str) (k n : Nat) (m : Addr → Addr → Str → List T → Fo) : Prop where
  ex : ∃ f fd ps, mg x = some (.ref f) ∧ PySem.W.keepIn K (.ref f) = true ∧ ps.length = n ∧ Binds K fd ps [] ∧ FnWg P w K mg base k f fd ps (fun a dd c => spD K mg n [] (m a dd c))
abbrev Wn : WX := fun _ _ _ _ => False
section
variable {P : Program} {w : World} {K : PySem.W.Frag} {mg : Str → Option Value} {base : Heap} {k n : Nat} {f : Addr} {fd : FuncData} {ps N : List Str} {x qual : Str} {st : Stmt}
abbrev bodyW (P : Program) (w : World) (K : PySem.W.Frag) (mg : Str → Option Value) (base : Heap) (N : List Str) (qual : Str) (st : Stmt) (f : Addr) (cdv : Value) (A : Around) (out : List PySem.Env) (s : Shared) (H : Hp) (p : Addr × Obj) : Cx :=
  L2H.cxH CX0 P w K mg base N qual (defScope st) f cdv A out s H E0 p
theorem fnW_of {b : Addr → Addr → Str → Sx} (F : Fun K x qual st f fd) (hm : mg x = some (.ref f)) (bi : Binds K fd ps []) (sc : FnScope N ps (defScope st)) (hn : ps.length = n)
    (body : ∀ (cdv : Value) (A : Around) (out : List PySem.Env) (s : Shared) (H : Hp) (a dd : Addr) (oe : Obj) (c : Str), Cz (bodyW P w K mg base N qual st f cdv A out s H (a, oe)) k → Held (bodyW P w K mg base N qual st f cdv A out s H (a, oe)) c a dd →
      DSs (bodyW P w K mg base N qual st f cdv A out s H (a, oe)) Wn [] (defBody st) (b a dd c)) : FnW P w K mg base x (k + 1) n (fun a dd c => fnM n N.length [] (b a dd c)) := by
  refine ⟨f, fd, ps, hm, F.kp, hn, bi, fun h => h.1.trans hn.symm, ?_⟩
  obtain ⟨oc, od, kV, dc, pm, an, cdv, ct, sl, rfl, at_, code⟩ := F.ex
  intro A out s H ar us vs Q a dd oe c room grd pin ep env bind vals prom
  have wd : vs.length = ps.length := prom.1.trans hn.symm
  have inK : K.In s.heap := env.mod.kin.keeps fun b o q => (env.bs b o q).1
  have noL : s.heap.NoLimit := env.mod.nolimit.keeps fun b o q => (env.bs b o q).1
  have kinds : ∀ p ∈ ps.zip us, (defScope st).names.lookup p.1 = some .local ∨ ((defScope st).names.lookup p.1 = some .cell ∧ ((cellsFrom (s.heap.objs.size + 1) (defScope st).names []).lookup p.1).isSome = true) := by
    rintro ⟨y, u⟩ hp
    have := sc.par y (List.of_mem_zip hp).1
    exact this.imp id fun q => ⟨q, PySem.W.cellsFrom_some _ _ _ (.inl q)⟩
  refine codeAny_call_function (room.depth) (inK _ _ at_) rfl (sc.co) (sc.gen) rfl (PySem.W.codeRec_of inK code) (bind _ _ _ _ (wpAny_newFunctionEnv_cells sc.kind kinds ?_))
  rintro _ rfl s1 laid
  refine ⟨noL.keeps laid.toInCall.keep, codeAny_func ?_⟩
  obtain ⟨C, vs0, e1, e2, e3⟩ := ep
  have ds := body cdv A out s H a dd oe c ⟨(room.deeper _).dp, (room.deeper _).un, grd⟩ ⟨oe, C, vs0, List.mem_singleton.mpr rfl, e1, e2, e3⟩
  obtain ⟨t, pt, run⟩ := spD_body (E := E0) rfl rfl rfl ds prom
  refine wpAny_mono (pt.run [] s1 (L2.start N vs) H _ (L2H.inv_startH sc pin env wd vals laid) run) ?_ fun _ _ z => z
  intro fl s2 e2
  cases fl with
  | next => obtain ⟨_, H2, J, q⟩ := e2; exact ⟨.non, H2, J.os, J.bare, J.base, J.hok, rfl, q⟩
  | ret u => obtain ⟨v, _, H2, J, rel, q⟩ := e2; exact ⟨v, H2, J.os, J.bare, J.base, J.hok, rel, q⟩
  | brk => exact e2.choose_spec.choose_spec.2.elim
  | cont => exact e2.choose_spec.choose_spec.2.elim
end
section
variable {Y : Cx} {e : Expr} {es : List Expr} {x : Str} {k k' n : Nat} {m : Addr → Addr → Str → List T → Fo} {tl : TA} {fs : List Ex} {p pos : Pos} {a dd : Addr} {c : Str}
theorem dn_callW (g : FnW Y.prog Y.w Y.K Y.mg Y.base x k n m) (cz : Cz Y k') (hk : k ≤ k') (h : Held Y c a dd) (ha : DA Y Wn (e :: es) tl (evA fs)) (hl : fs.length = n := by rfl) (hg : Gl Y x := by rfl) (hdb : (x == ("__debug__" : Str)) = false := by decide)
    (he : starEach (e :: es) Y.env = (false, eval e Y.env) :: starEach es Y.env := by rfl) (hpl : (backTo pos (starEach es Y.env)).any (·.1) = false := by rfl) : DN Y Wn (.Call (.Name x p) (e :: es) [] pos) (tCallS (spD Y.K Y.mg n [] (m a dd c)) (WE Wn) tl) (callN [] (m a dd c) fs) where
  pe := ⟨fun pins s σ H Q I h0 => by
    obtain ⟨f, fd, ps, hm, kp, hn, bi, G⟩ := g.ex
    obtain ⟨oe, C, vs0, mem, ec, z, hv⟩ := h.ex
    refine wpAny_Call_Name_kw (ld_glob I hg hm (PySem.W.callWith_K (h₀ := Y.base) I.ok.mod.kin kp (thn (ha.pe.run pos pins s σ H _ I h0) ?_) he hpl) hdb)
    rintro us s1 ⟨vs, H1, I1, rv, q⟩
    refine ⟨I1.kIn, ?_⟩
    have wd : us.length = ps.length := rv.length.symm.trans (G.wide q)
    have bd := bi s1 us I1.kIn (by simpa using wd)
    rw [List.append_nil] at bd
    have pn := I1.pin (a, oe) (List.mem_append_left _ mem)
    have room : L2H.RoomH k Y.A := ⟨by have := cz.dp; omega, by have := cz.un; omega⟩
    have pok : L2H.PinOk Y.stack H1 s1 (a, oe) := ⟨pn.1, pn.2.1, fun hm => (List.mem_cons.mp (I1.stkSub a hm)).elim pn.2.2.1 pn.2.2.2.1, pn.2.2.2.2⟩
    refine wpAny_call (codeAny_mono (G.go room cz.grd pok ⟨C, vs0, ec, z, hv⟩ I1.env0 bd rv q) ?_)
    rintro (ex | fl) s2 e2
    · exact e2.elim
    · cases fl with
      | ret u => exact I1.after e2
      | _ => exact e2.elim⟩
  mn := mn_callN hl ha.mn
end

/-! ### try: body, except X as e: suite -/
def tcan (K : PySem.W.Frag) (mg : Str → Option Value) (W : WX) (S : List Nat) (f : Sx) : TS := fun D σ H => ∃ F L δ P, Rep K mg F H L σ δ P ∧ OutOk K mg W S F H L P σ D (f δ)
theorem DSs.can {X : Cx} {W : WX} {S : List Nat} {st : List Stmt} {f : Sx} (h : DSs X W S st f) : PSs X st (tcan X.K X.mg W S f) := by
  obtain ⟨t, p, mn⟩ := h
  exact ⟨fun pins s σ H D I ⟨F, L, δ, P, R, o⟩ => p.run pins s σ H D I (mn.run σ H F L δ P D R o)⟩
def Out.unset (i : Nat) : Out → Out
  | .nx δ => .nx (δ.set i none)
  | .bk δ => .bk (δ.set i none)
  | .ct δ => .ct (δ.set i none)
  | .rt r δ => .rt r (δ.set i none)
  | _ => .bad
def tryS (cs : List Str) (i : Nat) (b : Sx) (h : Addr → Addr → Str → Sx) : Sx := fun δ => match b δ with
  | .ex c x δ1 => if c ∈ cs then (h 0 0 c (δ1.set i (some (.d (excD 0 0 c x))))).unset i else .bad
  | o => o
/-- the suite's end does not hang on the addresses -/
def Par (i : Nat) (h : Addr → Addr → Str → Sx) : Prop := ∀ (a dd : Addr) (c : Str) (x : D) (δ : Env), (h a dd c (δ.set i (some (.d (excD a dd c x))))).unset i = (h 0 0 c (δ.set i (some (.d (excD 0 0 c x))))).unset i
theorem Rep.forget {K : PySem.W.Frag} {mg : Str → Option Value} {F H : Hp} {L : Addr → Prop} {σ : St} {δ : Env} {P : Nat → Addr → Prop} {i : Nat} (R : Rep K mg F H L σ δ P) : Rep K mg F H L σ (δ.set i none) (drop P i) := by
  refine ⟨R.sub, by rw [List.length_set]; exact R.len, fun j u e => ?_, fun j a q => ?_, fun j k a q1 q2 => R.dj j k a q1.2 q2.2, R.lk⟩
  · by_cases hj : i = j
    · subst hj
      by_cases hi : i < δ.length
      · rw [getD_set_self hi] at e; cases e
      · rw [set_ge hi] at e; exact absurd (getD_lt e) hi
    · rw [getD_set_ne hj] at e
      obtain ⟨w, h1, h2⟩ := R.at_ j u e
      refine ⟨w, h1, ?_⟩
      have : drop P i j = P j := by funext a; exact propext ⟨fun z => z.2, fun z => ⟨fun y => hj y.symm, z⟩⟩
      rw [this]; exact h2
  · obtain ⟨u, hu⟩ := R.no j a q.2
    exact ⟨u, by rw [getD_set_ne (Ne.symm q.1)]; exact hu⟩
theorem Rep.forgetV {K : PySem.W.Frag} {mg : Str → Option Value} {F H : Hp} {L : Addr → Prop} {σ : St} {δ : Env} {P : Nat → Addr → Prop} {i : Nat} (R : Rep K mg F H L σ δ P) : Rep K mg F H L (σ.set i none) (δ.set i none) (drop P i) := by
  have R' := R.forget (i := i)
  refine ⟨R'.sub, by rw [List.length_set]; exact R'.len, fun j u e => ?_, R'.no, R'.dj, R'.lk⟩
  by_cases hj : i = j
  · subst hj
    by_cases hi : i < δ.length
    · rw [getD_set_self hi] at e; cases e
    · rw [set_ge hi] at e; exact absurd (getD_lt e) hi
  · obtain ⟨w, h1, h2⟩ := R'.at_ j u e
    exact ⟨w, by rw [getD_set_ne hj]; exact h1, h2⟩
theorem Wr_drop {L : Addr → Prop} {P : Nat → Addr → Prop} {i : Nat} {a : Addr} (h : Wr L (drop P i) a) : Wr L P a := let ⟨⟨j, _, q⟩, n⟩ := h; ⟨⟨j, q⟩, n⟩
/-- how a suite's end is told to the try -/
def Ends.un (i : Nat) (D : Ends) : Ends := { nx := fun σ' H' => D.nx (σ'.set i none) H', rt := D.rt, bk := fun σ' H' => D.bk (σ'.set i none) H', ct := fun σ' H' => D.ct (σ'.set i none) H' }
theorem OutOk.un {K : PySem.W.Frag} {mg : Str → Option Value} {S : List Nat} {F H : Hp} {L : Addr → Prop} {P : Nat → Addr → Prop} {σ : St} {D : Ends} {o : Out} {i : Nat} {W : WX} (hi : i ∉ S) (h : OutOk K mg W S F H L P σ D (o.unset i)) : OutOk K mg Wn S F H L P σ (Ends.un i D) o := by
  cases o with
  | nx δ => exact fun σ' H' F' P' ag po R => h _ H' F' _ (ag.trans (Agree.set hi)) (po.weak fun a => Wr_drop) R.forgetV
  | bk δ => exact fun σ' H' F' P' ag po R => h _ H' F' _ (ag.trans (Agree.set hi)) (po.weak fun a => Wr_drop) R.forgetV
  | ct δ => exact fun σ' H' F' P' ag po R => h _ H' F' _ (ag.trans (Agree.set hi)) (po.weak fun a => Wr_drop) R.forgetV
  | rt r δ => exact fun σ' v H' F' P' Pr ag po R o n => h σ' v H' F' _ Pr ag (po.weak fun a z => z.imp Wr_drop id) R.forget o fun a p ⟨j, q⟩ => n a p ⟨j, q.2⟩
  | ex c x δ => exact h.elim
  | bad => exact h.elim
section
variable {X : Cx} {W : WX} {S : List Nat} {body suite : List Stmt} {b₀ : Stmt} {i k : Nat} {n : Str} {cs : List Str} {b : Sx} {h : Addr → Addr → Str → Sx} {np pos pos' : Pos}
theorem ds_tryAs (cx : Ctx X k) (tab : ErrTab X.K X.mg cs) (tk : Takes X W) (hN : X.N.Nodup) (hi : X.N[i]? = some n) (iS : i ∉ S) (par : Par i h)
    (hb : ∀ (W' : WX) (pn : List (Addr × Obj)) (xe : Value → Shared → Prop), Ctx (X.tr pn xe) k → Takes (X.tr pn xe) W' → PassesOwn (model X.prog X.w) X.A X.env xe → DSs (X.tr pn xe) W' S body b)
    (hsu : ∀ (a dd : Addr) (c : Str) (oe : Obj) (pn : List (Addr × Obj)), c ∈ cs → Cz (X.suite a ((a, oe) :: pn)) k → Held (X.suite a ((a, oe) :: pn)) c a dd → DSs (X.suite a ((a, oe) :: pn)) Wn S (b₀ :: suite) (h a dd c))
    (hs : X.stack = X.env :: X.outer := by rfl) (hf : X.env.frame = some X.env.locals := by rfl) (hln : X.env.kindOf n = some .local := by rfl) (hg : Gl X "MemoryFault" := by rfl) (h0 : ∃ M, X.mg "MemoryFault" = some (.ref M)) :
    DS X W S (.Try body [.ExceptHandler (some (.Name "MemoryFault" np)) (some n) (b₀ :: suite) pos'] [] [] pos) (tryS cs i b h) := by
  obtain ⟨M, hM⟩ := h0
  refine ⟨_, ps_try_as (X := X) (i := i) (c := .ref M) (tb := fun W' => tcan X.K X.mg W' S b)
    (ts := fun a cls d D σ H => ∃ dd c, d = some dd ∧ c ∈ cs ∧ (∃ C, cls = .ref C ∧ ErrC X.K X.mg c C) ∧ tcan X.K X.mg Wn S (h a dd c) D σ H) hs hf hN hi hln ⟨hg, by decide, .inl hM⟩ tk (fun W' pn xe tk' ps => ?_) (fun a oe cls d pn z hv => ?_), ⟨fun σ H F L δ P D R o => ?_⟩⟩
  · exact (hb W' pn xe ⟨⟨cx.dp, cx.un, cx.grd⟩, cx.calm, cx.hd⟩ tk' ps).can
  · refine ⟨fun pins s σ H D I ⟨dd, c, ed, hc, ⟨C, ec, eC⟩, tc⟩ => ?_⟩
    subst ed ec
    obtain ⟨vs, hv⟩ := hv
    exact (hsu a dd c oe pn hc ⟨cx.dp, cx.un, cx.grd⟩ ⟨oe, C, vs, List.mem_cons_self, eC, z, hv⟩).can.run pins s σ H D I tc
  · refine ⟨F, L, δ, P, R, ?_⟩
    have o' : OutOk X.K X.mg W S F H L P σ D (match b δ with
      | .ex c x δ1 => if c ∈ cs then (h 0 0 c (δ1.set i (some (.d (excD 0 0 c x))))).unset i else .bad
      | o => o) := o
    cases q : b δ with
    | nx δ1 => rw [q] at o'; exact o'
    | bk δ1 => rw [q] at o'; exact o'
    | ct δ1 => rw [q] at o'; exact o'
    | rt r δ1 => rw [q] at o'; exact o'
    | bad => rw [q] at o'; exact o'
    | ex c x δ1 =>
      rw [q] at o'
      simp only at o'
      split at o'
      · rename_i hc
        intro σ' cls d H' F' P' ag po R' xi
        obtain ⟨C, dd, v, rfl, hC, rfl, hd, hz⟩ := xi
        obtain ⟨C1, ec, _, _, M1, hM1, exm⟩ := tab.at_ c hc
        obtain rfl : C = C1 := by
          have := hC.symm.trans ec.hm
          cases this
          rfl
        obtain rfl : M = M1 := by
          have := hM.symm.trans hM1
          cases this
          rfl
        refine ⟨true, exm, fun _ a na => ⟨dd, c, rfl, hc, ⟨C, rfl, ec⟩, ?_⟩, fun z => nomatch z⟩
        show tcan X.K X.mg Wn S (h a dd c) (Ends.un i D) _ _
        by_cases hl : i < δ1.length
        · obtain ⟨P3, p3, R3⟩ := R'.storeD hl (Fz.exc (a := a) hd hz)
          exact ⟨F', L, _, P3, R3, OutOk.un iS (by rw [par]; exact OutOk.later o' (ag.trans (Agree.set iS)) (po.trans p3))⟩
        · have h2 : ∀ t : Option T, δ1.set i t = δ1 := fun t => set_ge hl
          have h3 : σ'.set i (some (V.ref a)) = σ' := set_ge (by rw [R'.len]; exact hl)
          have pr := par a dd c x δ1
          rw [h2, h2] at pr
          rw [h2] at o'
          rw [h3]
          exact ⟨F', L, δ1, P', R', OutOk.un iS (by rw [pr]; exact OutOk.later o' ag po)⟩
      · exact o'.elim
end
end Dl

/-! DlI: new lists; methods of lists and texts; what changes a list of one's own. -/
namespace Dl
open PySem L2

/-! ### new lists -/
section
variable {K : PySem.W.Frag} {mg : Str → Option Value} {W : WX} {F H : Hp} {L : Addr → Prop} {σ : St} {δ : Env} {P : Nat → Addr → Prop}
/-- a new list at p, nobody holds it -/
theorem Rep.newL {p : Addr} {vs : List V} {l : List D} (R : Rep K mg F H L σ δ P) (n : H p = none) (h : FzAll K mg F vs l) :
    Rep K mg F (upd H p (.lst vs)) L σ δ P ∧ Post F H (Wr L P) F (upd H p (.lst vs)) (fun a => Wr L P a ∨ a = p) ∧ Ow K mg F (upd H p (.lst vs)) L (.ref p) (.own l) (fun a => a = p) ∧ ∀ a, a = p → ¬ U P a := by
  have nF : F p = none := by
    cases q : F p with
    | none => rfl
    | some u => rw [R.sub p u q] at n; cases n
  have ne : ∀ {a o}, H a = some o → a ≠ p := fun {a o} e => ne_of_none e n
  have keep : ∀ a o, H a = some o → upd H p (.lst vs) a = some o := fun a o e => by rw [upd_ne (ne e)]; exact e
  refine ⟨⟨fun a o e => keep a o (R.sub a o e), R.len, fun i t e => ?_, R.no, R.dj, fun a l => ?_⟩, ⟨Same.refl _, fun a o e _ => keep a o e, fun a e => .inl e, fun a e => e.imp id fun z => by rw [z]; exact n⟩, ⟨p, vs, rfl, upd_same, nF, fun l => (R.lk p l).1 n, h, fun _ => Iff.rfl⟩, fun a e u => (R.has u).1 (by rw [e]; exact n)⟩
  · obtain ⟨v, h1, h2⟩ := R.at_ i t e
    exact ⟨v, h1, h2.step (Same.refl _) (fun a o z _ => keep a o z) fun a p => (h2.has p).2⟩
  · obtain ⟨h1, h2⟩ := R.lk a l
    refine ⟨?_, h2⟩
    cases q : H a with
    | none => exact absurd q h1
    | some o => rw [keep a o q]; simp
end
/-- values in, a new list out -/
def OpN (K : PySem.W.Frag) (mg : Str → Option Value) (r : List V → Hp → VK → Prop) (g : List D → Option (List D)) : Prop :=
  ∀ F H vs xs l (Q : VK), Same F H → VwAll K mg F H vs xs → g xs = some l → (∀ p ws, H p = none → FzAll K mg F ws l → Q (.ref p) (upd H p (.lst ws))) → r vs H Q
def newA (g : List D → Option (List D)) (fs : List Ex) : Nx := fun δ => match evA fs δ with
  | .ok rs δ1 => (match toDs rs δ1 with
    | some xs => .inl ((g xs).map fun l => (.own l, δ1))
    | none => .inl none)
  | .ex c a δ1 => .inr (c, a, δ1)
  | .bad => .inl none
def newL (fs : List Ex) : Nx := fun δ => match evA fs δ with
  | .ok rs δ1 => (match frzs rs δ1 with
    | some (xs, δ2) => .inl (some (.own xs, δ2))
    | none => .inl none)
  | .ex c a δ1 => .inr (c, a, δ1)
  | .bad => .inl none
section
variable {K : PySem.W.Frag} {mg : Str → Option Value} {W : WX} {tl : TA} {fs : List Ex} {r : List V → Hp → VK → Prop} {g : List D → Option (List D)}
theorem mn_newA (ho : OpN K mg r g) (ha : MnA K mg W tl (evA fs)) : MnN K mg W (tCB r tl) (newA g fs) where
  ok := fun σ H F L δ P t δ' Q R e k => by
    simp only [newA] at e
    cases q : evA fs δ with
    | ok rs δ1 =>
      rw [q] at e
      simp only at e
      cases q2 : toDs rs δ1 with
      | none => rw [q2] at e; cases e
      | some xs =>
        rw [q2] at e
        simp only [Sum.inl.injEq, Option.map_eq_some_iff, Prod.mk.injEq] at e
        obtain ⟨l, e1, rfl, rfl⟩ := e
        refine ha.ok σ H F L δ P rs δ1 _ R q fun vs H1 F1 P1 p1 R1 ro => ho F1 H1 vs xs l Q R1.sub (R1.views ro q2) e1 fun p ws n hz => ?_
        obtain ⟨a, b, c, d⟩ := R1.newL n hz
        exact k _ _ F1 P1 _ (p1.trans b) a c d
    | ex c a δ1 => rw [q] at e; cases e
    | bad => rw [q] at e; cases e
  ex := fun σ H F L δ P c a δ' Q R e k => by
    simp only [newA] at e
    cases q : evA fs δ with
    | ok rs δ1 => rw [q] at e; simp only at e; split at e <;> cases e
    | ex c1 a1 δ1 => rw [q] at e; cases e; exact ha.ex σ H F L δ P _ _ _ _ R q k
    | bad => rw [q] at e; cases e
theorem mn_newL (ha : MnA K mg W tl (evA fs)) (hl : fs.length ≤ 1000) : MnN K mg W (tLst tl) (newL fs) where
  ok := fun σ H F L δ P t δ' Q R e k => by
    simp only [newL] at e
    cases q : evA fs δ with
    | ok rs δ1 =>
      rw [q] at e
      simp only at e
      cases q2 : frzs rs δ1 with
      | none => rw [q2] at e; cases e
      | some y =>
        obtain ⟨xs, δ2⟩ := y
        rw [q2] at e
        cases e
        refine ha.ok σ H F L δ P rs δ1 _ R q fun vs H1 F1 P1 p1 R1 ro => ?_
        obtain ⟨F2, P2, p2, R2, hz⟩ := R1.freezes ro q2
        refine ⟨by rw [hz.len, frzs_len q2, evA_len q]; exact szl (by omega), fun p n => ?_⟩
        obtain ⟨a, b, c, d⟩ := R2.newL n hz
        exact k _ _ F2 P2 _ ((p1.trans p2).trans b) a c d
    | ex c a δ1 => rw [q] at e; cases e
    | bad => rw [q] at e; cases e
  ex := fun σ H F L δ P c a δ' Q R e k => by
    simp only [newL] at e
    cases q : evA fs δ with
    | ok rs δ1 => rw [q] at e; simp only at e; split at e <;> cases e
    | ex c1 a1 δ1 => rw [q] at e; cases e; exact ha.ex σ H F L δ P _ _ _ _ R q k
    | bad => rw [q] at e; cases e
end
/-- list(x) -/
def nList : List D → Option (List D)
  | [.list l] => some l
  | [.tuple l] => some l
  | _ => none
section
variable {K : PySem.W.Frag} {mg : Str → Option Value}
theorem oN_list : OpN K mg (fun xs H Q => ∃ p ys, xs = [.ref p] ∧ (SqL K H p ys ∨ SqT K H p ys) ∧ ∀ l, H l = none → Q (.ref l) (upd H l (.lst ys))) nList := by
  intro F H vs xs l Q sub hv e k
  unfold nList at e
  split at e
  · cases e
    obtain ⟨v, rfl, a, ws, rfl, h1, h2⟩ := vwAll1 hv
    exact ⟨a, ws, rfl, .inl (.inl (.inl h1)), fun p n => k p ws n h2⟩
  · cases e
    obtain ⟨v, rfl, a, ws, rfl, h1, h2⟩ := vwAll1 hv
    exact ⟨a, ws, rfl, .inr (same_sqT sub h1), fun p n => k p ws n h2⟩
  · cases e
end

/-! ### methods upon values: the object, the arguments -/
def isTy (T : String) : D → Bool
  | .list _ => T == "list"
  | .str _ => T == "str"
  | _ => false
def OpM (K : PySem.W.Frag) (mg : Str → Option Value) (r : V → List V → Hp → VK → Prop) (g : D → List D → Option D) : Prop :=
  ∀ F H v vs x xs z (Q : VK), Same F H → Vw K mg F H v x → VwAll K mg F H vs xs → g x xs = some z → (∀ v' H' F', Grow F H F' H' → Fz K mg F' v' z → Q v' H') → r v vs H Q
def meE (T : String) (g : D → List D → Option D) (fa : Ex) (fs : List Ex) : Ex := fun δ => (fa δ).bind fun ra δ1 => match toD ra δ1 with
  | some y => if isTy T y then ((evA fs δ1).bind fun rs δ2 => match toD ra δ2, toDs rs δ2 with
    | some x, some xs => ofO (g x xs) δ2
    | _, _ => .bad) else .bad
  | none => .bad
section
variable {K : PySem.W.Frag} {mg : Str → Option Value} {W : WX} {ta : TE} {tl : TA} {fa : Ex} {fs : List Ex} {T : String} {r : V → List V → Hp → VK → Prop} {g : D → List D → Option D}
theorem tyV_of {F H : Hp} {v : V} {x : D} (h : Vw K mg F H v x) (e : isTy T x = true) : tyV K T v H := by
  cases x with
  | list l =>
    obtain ⟨a, vs, rfl, h1, h2⟩ := h
    have e' : T = "list" := by simpa [isTy] using e
    exact .inl ⟨e', vs, .inl (.inl h1)⟩
  | str s =>
    cases vwS h
    have e' : T = "str" := by simpa [isTy] using e
    exact e'
  | _ => cases e
theorem mn_me (ho : OpM K mg r g) (ha : MnE K mg W ta fa) (hl : MnA K mg W tl (evA fs)) : MnE K mg W (tBM K T r ta tl) (meE T g fa fs) where
  ok := fun σ H F L δ P rr δ' Q R e k => by
    simp only [meE] at e
    cases q : fa δ with
    | ok ra δ1 =>
      rw [q] at e
      simp only [Re.bind] at e
      cases q2 : toD ra δ1 with
      | none => rw [q2] at e; cases e
      | some y =>
        rw [q2] at e
        simp only at e
        split at e
        · rename_i ty
          cases q3 : evA fs δ1 with
          | ok rs δ2 =>
            rw [q3] at e
            simp only [ReA.bind] at e
            cases q4 : toD ra δ2 with
            | none => rw [q4] at e; cases e
            | some x =>
              cases q5 : toDs rs δ2 with
              | none => rw [q4, q5] at e; cases e
              | some xs =>
                rw [q4, q5] at e
                obtain ⟨z, e1, rfl, rfl⟩ := ofO_ok e
                refine ha.ok σ H F L δ P ra δ1 _ R q fun v H1 F1 P1 p1 R1 rs1 => ⟨tyV_of (R1.view rs1 q2) ty, ?_⟩
                refine hl.ok σ H1 F1 L δ1 P1 rs _ _ R1 q3 fun vs H2 F2 P2 p2 R2 rs2 => ?_
                exact ho F2 H2 v vs x xs z Q R2.sub (R2.view (rs1.mono p2.mono) q4) (R2.views rs2 q5) e1 fun v' H' F' gr hz => k v' H' F' P2 ((p1.trans p2).trans gr.post) (R2.grow gr) hz
          | ex c a δ2 => rw [q3] at e; cases e
          | bad => rw [q3] at e; cases e
        · cases e
    | ex c a δ1 => rw [q] at e; cases e
    | bad => rw [q] at e; cases e
  ex := fun σ H F L δ P c a δ' Q R e k => by
    simp only [meE] at e
    cases q : fa δ with
    | ok ra δ1 =>
      rw [q] at e
      simp only [Re.bind] at e
      cases q2 : toD ra δ1 with
      | none => rw [q2] at e; cases e
      | some y =>
        rw [q2] at e
        simp only at e
        split at e
        · rename_i ty
          cases q3 : evA fs δ1 with
          | ok rs δ2 =>
            rw [q3] at e
            simp only [ReA.bind] at e
            split at e
            · exact (ofO_ex e).elim
            · cases e
          | ex c1 a1 δ2 =>
            rw [q3] at e
            cases e
            refine ha.ok σ H F L δ P ra δ1 _ R q fun v H1 F1 P1 p1 R1 rs1 => ⟨tyV_of (R1.view rs1 q2) ty, ?_⟩
            exact hl.ex σ H1 F1 L δ1 P1 _ _ _ _ R1 q3 fun cls d H2 F2 P2 p2 R2 x => k cls d H2 F2 P2 (p1.trans p2) R2 x
          | bad => rw [q3] at e; cases e
        · cases e
    | ex c1 a1 δ1 =>
      rw [q] at e
      cases e
      exact ha.ex σ H F L δ P _ _ _ _ R q k
    | bad => rw [q] at e; cases e
end

/-! ### changing an owned list -/
section
variable {K : PySem.W.Frag} {mg : Str → Option Value} {W : WX} {F H : Hp} {L : Addr → Prop} {σ : St} {δ : Env} {P : Nat → Addr → Prop}
theorem Rep.change {i : Nat} {l l' : List D} (R : Rep K mg F H L σ δ P) (e : δ.getD i none = some (.own l)) : ∃ a vs, σ.getD i none = some (.ref a) ∧ H a = some (.lst vs) ∧ FzAll K mg F vs l ∧
    ∀ vs', FzAll K mg F vs' l' → Rep K mg F (upd H a (.lst vs')) L σ (δ.set i (some (.own l'))) P ∧ Post F H (Wr L P) F (upd H a (.lst vs')) (Wr L P) := by
  obtain ⟨v, h1, a, vs, rfl, h2, h3, h4, h5, h6⟩ := R.at_ i _ e
  have hi : i < δ.length := getD_lt e
  have pa : P i a := (h6 a).mpr rfl
  refine ⟨a, vs, h1, h2, h5, fun vs' hz => ⟨⟨fun b o q => ?_, by rw [List.length_set]; exact R.len, fun j t q => ?_, fun j b q => ?_, R.dj, fun b lb => ?_⟩, ⟨Same.refl _, fun b o q n => ?_, fun b q => .inl q, fun b q => .inl q⟩⟩⟩
  · have nb : b ≠ a := fun z => by rw [z, h3] at q; cases q
    rw [upd_ne nb]; exact R.sub b o q
  · by_cases hj : i = j
    · subst hj
      rw [getD_set_self hi] at q
      cases q
      exact ⟨_, h1, a, vs', rfl, upd_same, h3, h4, hz, h6⟩
    · rw [getD_set_ne hj] at q
      obtain ⟨w, q1, q2⟩ := R.at_ j t q
      refine ⟨w, q1, q2.step (Same.refl _) (fun b o z p => ?_) fun b p => (q2.has p).2⟩
      have nb : b ≠ a := fun y => hj (R.dj i j a pa (y ▸ p))
      rw [upd_ne nb]; exact z
  · by_cases hj : i = j
    · subst hj; exact ⟨_, getD_set_self hi⟩
    · rw [getD_set_ne hj]; exact R.no j b q
  · obtain ⟨l1, l2⟩ := R.lk b lb
    refine ⟨?_, l2⟩
    by_cases nb : b = a
    · rw [nb, upd_same]; simp
    · rw [upd_ne nb]; exact l1
  · have nb : b ≠ a := fun z => n ⟨⟨i, z ▸ pa⟩, z ▸ h4⟩
    rw [upd_ne nb]; exact q
end
/-- a list and frozen values: what comes out, what the list is then -/
def OpC (K : PySem.W.Frag) (mg : Str → Option Value) (r : V → List V → Hp → VK → Prop) (g : List D → List D → Option (D × List D)) : Prop :=
  ∀ F H a vs ws l xs z l' (Q : VK), Same F H → H a = some (.lst vs) → FzAll K mg F vs l → FzAll K mg F ws xs → g l xs = some (z, l') →
    (∀ v vs', Fz K mg F v z → FzAll K mg F vs' l' → Q v (upd H a (.lst vs'))) → r (.ref a) ws H Q
def chE (i : Nat) (g : List D → List D → Option (D × List D)) (fs : List Ex) : Ex := fun δ => match δ.getD i none with
  | some (.own _) => (evA fs δ).bind fun rs δ1 => (match frzs rs δ1 with
    | some (xs, δ2) => (match δ2.getD i none with
      | some (.own l) => (match g l xs with
        | some (z, l') => .ok (.d z) (δ2.set i (some (.own l')))
        | none => .bad)
      | _ => .bad)
    | none => .bad)
  | _ => .bad
section
variable {K : PySem.W.Frag} {mg : Str → Option Value} {W : WX} {tl : TA} {fs : List Ex} {r : V → List V → Hp → VK → Prop} {g : List D → List D → Option (D × List D)} {i : Nat}
theorem mn_ch (ho : OpC K mg r g) (hl : MnA K mg W tl (evA fs)) : MnE K mg W (tBM K "list" r (tVar i) tl) (chE i g fs) where
  ok := fun σ H F L δ P rr δ' Q R e k => by
    simp only [chE] at e
    split at e
    · rename_i l0 e0
      cases q : evA fs δ with
      | ok rs δ1 =>
        rw [q] at e
        simp only [ReA.bind] at e
        cases q2 : frzs rs δ1 with
        | none => rw [q2] at e; cases e
        | some y =>
          obtain ⟨xs, δ2⟩ := y
          rw [q2] at e
          simp only at e
          split at e
          · rename_i l e2
            cases q3 : g l xs with
            | none => rw [q3] at e; cases e
            | some y =>
              obtain ⟨z, l'⟩ := y
              rw [q3] at e
              cases e
              obtain ⟨v, h1, a, vs, rfl, h2, h3, h4, h5, h6⟩ := R.at_ i _ e0
              refine ⟨_, getD_some h1, .inl ⟨rfl, vs, .inl (.inl h2)⟩, hl.ok σ H F L δ P rs δ1 _ R q fun ws H1 F1 P1 p1 R1 ro => ?_⟩
              obtain ⟨F2, P2, p2, R2, hz⟩ := R1.freezes ro q2
              obtain ⟨a', vs1, c1, c2, c3, c4⟩ := R2.change (l' := l') e2
              rw [h1] at c1
              cases c1
              exact ho F2 H1 a vs1 ws l xs z l' Q R2.sub c2 c3 hz q3 fun v vs' hv hvs => let ⟨R3, p3⟩ := c4 vs' hvs; k v _ F2 P2 ((p1.trans p2).trans p3) R3 hv
          · cases e
      | ex c a δ1 => rw [q] at e; cases e
      | bad => rw [q] at e; cases e
    · cases e
  ex := fun σ H F L δ P c a δ' Q R e k => by
    simp only [chE] at e
    split at e
    · rename_i l0 e0
      cases q : evA fs δ with
      | ok rs δ1 =>
        rw [q] at e
        simp only [ReA.bind] at e
        split at e
        · split at e
          · split at e <;> cases e
          · cases e
        · cases e
      | ex c1 a1 δ1 =>
        rw [q] at e
        cases e
        obtain ⟨v, h1, a, vs, rfl, h2, h3, h4, h5, h6⟩ := R.at_ i _ e0
        exact ⟨_, getD_some h1, .inl ⟨rfl, vs, .inl (.inl h2)⟩, hl.ex σ H F L δ P _ _ _ _ R q k⟩
      | bad => rw [q] at e; cases e
    · cases e
end
def cAppend : List D → List D → Option (D × List D)
  | l, [x] => if l.length < 16777216 then some (.none, l ++ [x]) else none
  | _, _ => none
def cPop : List D → List D → Option (D × List D)
  | l, [] => (l[l.length - 1]?).map fun x => (x, l.dropLast)
  | _, _ => none
def cPopAt : List D → List D → Option (D × List D)
  | l, [.int i] => if -(2 ^ 63) ≤ i ∧ i < 2 ^ 63 then (seqIndex? i l.length).bind fun k => (l[k]?).map fun x => (x, l.eraseIdx k) else none
  | _, _ => none
section
variable {K : PySem.W.Frag} {mg : Str → Option Value}
theorem fzAll1 {F : Hp} {vs : List V} {x : D} (h : FzAll K mg F vs [x]) : ∃ v, vs = [v] ∧ Fz K mg F v x := by
  cases h with
  | cons a r => cases r; exact ⟨_, rfl, a⟩
theorem oC_append : OpC K mg rAppend cAppend := by
  intro F H a vs ws l xs z l' Q sub ha hz hx e k
  unfold cAppend at e
  split at e
  · split at e
    · rename_i hl
      cases e
      obtain ⟨y, rfl, hy⟩ := fzAll1 hx
      exact ⟨a, vs, y, rfl, rfl, ha, by rw [hz.len]; exact szl' hl, k _ _ .non (hz.append (.cons hy .nil))⟩
    · cases e
  · cases e
theorem FzAll.dropLast {F : Hp} {vs : List V} {l : List D} (h : FzAll K mg F vs l) : FzAll K mg F vs.dropLast l.dropLast := by
  rw [List.dropLast_eq_take, List.dropLast_eq_take, h.len]
  exact h.take _
theorem oC_pop : OpC K mg rPop cPop := by
  intro F H a vs ws l xs z l' Q sub ha hz hx e k
  unfold cPop at e
  split at e
  · simp only [Option.map_eq_some_iff, Prod.mk.injEq] at e
    obtain ⟨x, e1, rfl, rfl⟩ := e
    cases hx
    obtain ⟨v, h1, h2⟩ := hz.get e1
    exact ⟨a, vs, v, rfl, rfl, ha, by rw [hz.len]; exact h1, k _ _ h2 hz.dropLast⟩
  · cases e
theorem oC_popAt : OpC K mg rPopAt cPopAt := by
  intro F H a vs ws l xs z l' Q sub ha hz hx e k
  unfold cPopAt at e
  split at e
  · split at e
    · rename_i hi
      simp only [Option.bind_eq_some_iff, Option.map_eq_some_iff, Prod.mk.injEq] at e
      obtain ⟨j, e0, x, e1, rfl, rfl⟩ := e
      obtain ⟨y, rfl, hy⟩ := fzAll1 hx
      cases hy
      obtain ⟨v, h1, h2⟩ := hz.get e1
      exact ⟨a, vs, _, j, v, rfl, rfl, ha, hi.1, hi.2, by rw [hz.len]; exact e0, h1, k _ _ h2 (hz.erase j)⟩
    · cases e
  · cases e
end
/-- l.extend(x): x is only read -/
def exE (i : Nat) (fa : Ex) : Ex := fun δ => match δ.getD i none with
  | some (.own _) => (fa δ).bind fun ra δ1 => (match toD ra δ1, δ1.getD i none with
    | some (.list m), some (.own l) => if l.length + m.length ≤ 16777216 then .ok (.d .none) (δ1.set i (some (.own (l ++ m)))) else .bad
    | _, _ => .bad)
  | _ => .bad
section
variable {K : PySem.W.Frag} {mg : Str → Option Value} {W : WX} {ta : TE} {fa : Ex} {i : Nat}
theorem mn_exE (ha : MnE K mg W ta fa) : MnE K mg W (tBM K "list" rExtend (tVar i) (tCons ta tNil)) (exE i fa) where
  ok := fun σ H F L δ P rr δ' Q R e k => by
    simp only [exE] at e
    split at e
    · rename_i l0 e0
      cases q : fa δ with
      | ok ra δ1 =>
        rw [q] at e
        simp only [Re.bind] at e
        split at e
        · rename_i m l e1 e2
          split at e
          · rename_i hl
            cases e
            obtain ⟨v, h1, a, vs, rfl, h2, h3, h4, h5, h6⟩ := R.at_ i _ e0
            refine ⟨_, getD_some h1, .inl ⟨rfl, vs, .inl (.inl h2)⟩, ha.ok σ H F L δ P ra δ1 _ R q fun w H1 F1 P1 p1 R1 ro => ?_⟩
            obtain ⟨a', vs1, c1, c2, c3, c4⟩ := R1.change (l' := l ++ m) e2
            rw [h1] at c1
            cases c1
            obtain ⟨b, ws, rfl, w1, w2⟩ := R1.view ro e1
            obtain ⟨R3, p3⟩ := c4 _ (c3.append w2)
            exact ⟨a, b, vs1, ws, rfl, rfl, c2, w1, by rw [c3.len, w2.len]; exact szl hl, k _ _ F1 P1 (p1.trans p3) R3 .non⟩
          · cases e
        · cases e
      | ex c a δ1 => rw [q] at e; cases e
      | bad => rw [q] at e; cases e
    · cases e
  ex := fun σ H F L δ P c a δ' Q R e k => by
    simp only [exE] at e
    split at e
    · rename_i l0 e0
      cases q : fa δ with
      | ok ra δ1 =>
        rw [q] at e
        simp only [Re.bind] at e
        split at e
        · split at e <;> cases e
        · cases e
      | ex c1 a1 δ1 =>
        rw [q] at e
        cases e
        obtain ⟨v, h1, a, vs, rfl, h2, h3, h4, h5, h6⟩ := R.at_ i _ e0
        exact ⟨_, getD_some h1, .inl ⟨rfl, vs, .inl (.inl h2)⟩, ha.ex σ H F L δ P _ _ _ _ R q k⟩
      | bad => rw [q] at e; cases e
    · cases e
end
/-- x[j] = e -/
def setIx (i : Nat) (fe fj : Ex) : Sx := fun δ => (fe δ).out fun re δ1 => match frz re δ1 with
  | some (x, δ2) => (match δ2.getD i none with
    | some (.own _) => (fj δ2).out fun rj δ3 => (match rj, δ3.getD i none with
      | .d (.int j), some (.own l) => (match ixN l.length j with
        | some k => .nx (δ3.set i (some (.own (l.set k x))))
        | none => .bad)
      | _, _ => .bad)
    | _ => .bad)
  | none => .bad
section
variable {K : PySem.W.Frag} {mg : Str → Option Value} {W : WX} {S : List Nat} {te tj : TE} {fe fj : Ex} {i : Nat}
theorem mn_setIx (he : MnE K mg W te fe) (hj : MnE K mg W tj fj) : MnS K mg W S (tAsg te (L2.gSub (tVar i) tj rSetL)) (setIx i fe fj) := by
  refine he.stmt (T := fun D σ v H1 => L2.gSub (tVar i) tj rSetL v σ H1 D.nx) fun σ H F L δ P r v D R rs h => ?_
  cases q : frz r δ with
  | none => rw [q] at h; exact h.elim
  | some p =>
    obtain ⟨x, δ2⟩ := p
    rw [q] at h
    simp only at h
    obtain ⟨F2, P2, p2, R2, hz⟩ := R.freeze rs q
    split at h
    · rename_i l0 e0
      obtain ⟨w, h1, a, vs, rfl, h2, h3, h4, h5, h6⟩ := R2.at_ i _ e0
      refine ⟨_, getD_some h1, ?_⟩
      cases q3 : fj δ2 with
      | ok rj δ3 =>
        rw [q3] at h
        simp only [Re.out] at h
        split at h
        · rename_i j l e3
          cases q4 : ixN l.length j with
          | none => rw [q4] at h; exact h.elim
          | some k =>
            rw [q4] at h
            refine hj.ok σ H F2 L δ2 P2 _ _ _ R2 q3 fun wj H3 F3 P3 p3 R3 rsj => ?_
            cases (show Fz K mg F3 wj (.int j) from rsj)
            obtain ⟨a', vs1, c1, c2, c3, c4⟩ := R3.change (l' := l.set k x) e3
            rw [h1] at c1
            cases c1
            obtain ⟨R4, p4⟩ := c4 _ (c3.set (hz.mono p3.mono) k)
            exact ⟨a, vs1, j, k, rfl, rfl, c2, by rw [c3.len]; exact q4, h σ _ F3 P3 Agree.refl ((p2.trans p3).trans p4) R4⟩
        · exact h.elim
      | ex c x δ3 =>
        rw [q3] at h
        exact hj.ex σ H F2 L δ2 P2 c x δ3 _ R2 q3 fun cls d H3 F3 P3 p3 R3 y => h σ cls d H3 F3 P3 Agree.refl (p2.trans p3) R3 y
      | bad => rw [q3] at h; exact h.elim
    · exact h.elim
end
/-- x op= e for a name that holds data -/
def augS (i : Nat) (g : D → D → Option D) (fe : Ex) : Sx := fun δ => match δ.getD i none with
  | some (.d a) => (fe δ).out fun re δ1 => (match toD re δ1 with
    | some b => (match g a b with
      | some z => .nx (δ1.set i (some (.d z)))
      | none => .bad)
    | none => .bad)
  | _ => .bad
section
variable {K : PySem.W.Frag} {mg : Str → Option Value} {W : WX} {S : List Nat} {te : TE} {fe : Ex} {i : Nat} {r : R2} {g : D → D → Option D}
theorem mn_aug (iS : i ∉ S) (ho : Op2 K mg r g) (he : MnE K mg W te fe) : MnS K mg W S (tAug i te r) (augS i g fe) := ⟨fun σ H F L δ P D R h => by
  simp only [augS] at h
  split at h
  · rename_i x e0
    obtain ⟨v, h1, h2⟩ := R.at_ i _ e0
    refine ⟨v, getD_some h1, ?_⟩
    cases q : fe δ with
    | ok re δ1 =>
      rw [q] at h
      simp only [Re.out] at h
      cases q2 : toD re δ1 with
      | none => rw [q2] at h; exact h.elim
      | some y =>
        rw [q2] at h
        simp only at h
        cases q3 : g x y with
        | none => rw [q3] at h; exact h.elim
        | some z =>
          rw [q3] at h
          refine he.ok σ H F L δ P re δ1 _ R q fun w H1 F1 P1 p1 R1 rs => ?_
          refine ho F1 H1 v w x y z _ R1.sub ((h2.1.mono p1.mono).vw R1.sub) (R1.view rs q2) q3 fun u H2 F2 gr hz => ?_
          have R2 := R1.grow gr
          by_cases hl : i < δ1.length
          · obtain ⟨P3, p3, R3⟩ := R2.storeD hl hz
            exact h _ H2 F2 P3 (Agree.set iS) ((p1.trans gr.post).trans p3) R3
          · have e2 : δ1.set i (some (.d z)) = δ1 := set_ge hl
            have e3 : σ.set i (some u) = σ := set_ge (by rw [R1.len]; exact hl)
            rw [e3]
            simp only at h
            rw [e2] at h
            exact h σ H2 F2 P1 Agree.refl (p1.trans gr.post) R2
    | ex c a δ1 =>
      rw [q] at h
      exact he.ex σ H F L δ P c a δ1 _ R q fun cls d H1 F1 P1 p1 R1 y => h σ cls d H1 F1 P1 Agree.refl p1 R1 y
    | bad => rw [q] at h; exact h.elim
  · exact h.elim⟩
def gAddI : D → D → Option D
  | .int i, .int j => some (.int (i + j))
  | _, _ => none
theorem o2_ipadd : Op2 K mg (ipI fun i j => i + j) gAddI := by
  intro F H v w x y z Q sub hx hy e k
  unfold gAddI at e
  split at e
  · cases e; exact ⟨_, _, vwI hx, vwI hy, k _ H F (Grow.refl sub) (.int _)⟩
  · cases e
theorem o2_ipsub : Op2 K mg (ipI fun i j => i - j) gSub := by
  intro F H v w x y z Q sub hx hy e k
  unfold Dl.gSub at e
  split at e
  · cases e; exact ⟨_, _, vwI hx, vwI hy, k _ H F (Grow.refl sub) (.int _)⟩
  · cases e
end
/-- del x[j] -/
def delIx (i : Nat) (fj : Ex) : Sx := fun δ => match δ.getD i none with
  | some (.own _) => (fj δ).out fun rj δ1 => (match rj, δ1.getD i none with
    | .d (.int j), some (.own l) => if -(2 ^ 63) ≤ j ∧ j < 2 ^ 63 then (match seqIndex? j l.length with
      | some k => .nx (δ1.set i (some (.own (l.eraseIdx k))))
      | none => .bad) else .bad
    | _, _ => .bad)
  | _ => .bad
section
variable {K : PySem.W.Frag} {mg : Str → Option Value} {W : WX} {S : List Nat} {tj : TE} {fj : Ex} {i : Nat}
theorem mn_delIx (hj : MnE K mg W tj fj) : MnS K mg W S (tDelL (tVar i) tj) (delIx i fj) := ⟨fun σ H F L δ P D R h => by
  simp only [delIx] at h
  split at h
  · rename_i l0 e0
    obtain ⟨w, h1, a, vs, rfl, h2, h3, h4, h5, h6⟩ := R.at_ i _ e0
    refine ⟨_, getD_some h1, ?_⟩
    cases q3 : fj δ with
    | ok rj δ3 =>
      rw [q3] at h
      simp only [Re.out] at h
      split at h
      · rename_i j l e3
        split at h
        · rename_i hr
          cases q4 : seqIndex? j l.length with
          | none => rw [q4] at h; exact h.elim
          | some k =>
            rw [q4] at h
            refine hj.ok σ H F L δ P _ _ _ R q3 fun wj H3 F3 P3 p3 R3 rsj => ?_
            cases (show Fz K mg F3 wj (.int j) from rsj)
            obtain ⟨a', vs1, c1, c2, c3, c4⟩ := R3.change (l' := l.eraseIdx k) e3
            rw [h1] at c1
            cases c1
            obtain ⟨R4, p4⟩ := c4 _ (c3.erase k)
            exact ⟨a, vs1, j, k, rfl, rfl, c2, hr.1, hr.2, by rw [c3.len]; exact q4, h σ _ F3 P3 Agree.refl (p3.trans p4) R4⟩
        · exact h.elim
      · exact h.elim
    | ex c x δ3 =>
      rw [q3] at h
      exact hj.ex σ H F L δ P c x δ3 _ R q3 fun cls d H3 F3 P3 p3 R3 y => h σ cls d H3 F3 P3 Agree.refl p3 R3 y
    | bad => rw [q3] at h; exact h.elim
  · exact h.elim⟩
end
end Dl

/-! DlK: list comprehensions. -/
namespace Dl
open PySem L2

/-! ### canonical readings -/
def DEx (X : Cx) (W : WX) (e : Expr) (f : Ex) : Prop := ∃ t, DE X W e t f
def DTx (X : Cx) (W : WX) (e : Expr) (f : Ex) : Prop := ∃ t, DT X W e t f
def DGx (X : Cx) (S : List Nat) (e : Expr) (t : Tgt) : Prop := ∃ g, DG X S e g t
def DIx (X : Cx) (W : WX) (tg iter : Expr) (f : Ix) : Prop := ∃ t, DI X W tg iter t f
section
variable (K : PySem.W.Frag) (mg : Str → Option Value) (W : WX)
def ecan (f : Ex) : TE := fun σ H Q => ∃ F L δ P, Rep K mg F H L σ δ P ∧
  ((∃ r δ', f δ = .ok r δ' ∧ ∀ v H' F' P', Post F H (Wr L P) F' H' (Wr L P') → Rep K mg F' H' L σ δ' P' → RsOk K mg F' σ v r → Q v H') ∨
   ∃ c a δ', f δ = .ex c a δ' ∧ ∀ cls d H' F' P', Post F H (Wr L P) F' H' (Wr L P') → Rep K mg F' H' L σ δ' P' → ExcIs K mg F' c a cls d → W cls d σ H')
def bcan (f : Ex) : TT := fun σ H Q => ∃ F L δ P, Rep K mg F H L σ δ P ∧
  ((∃ b δ', f δ = .ok (.d (.bool b)) δ' ∧ ∀ H' F' P', Post F H (Wr L P) F' H' (Wr L P') → Rep K mg F' H' L σ δ' P' → Q b H') ∨
   ∃ c a δ', f δ = .ex c a δ' ∧ ∀ cls d H' F' P', Post F H (Wr L P) F' H' (Wr L P') → Rep K mg F' H' L σ δ' P' → ExcIs K mg F' c a cls d → W cls d σ H')
def gcan (S : List Nat) (t : Tgt) : TG := fun v σ H Q => ∃ F L δ P x δ', Rep K mg F H L σ δ P ∧ Fz K mg F v x ∧ asgT t x δ = some δ' ∧
  ∀ σ' P', Agree S σ σ' → Post F H (Wr L P) F H (Wr L P') → Rep K mg F H L σ' δ' P' → Q σ' H
theorem mn_ecan (f : Ex) : MnE K mg W (ecan K mg W f) f where
  ok := fun σ H F L δ P r δ' Q R e k => ⟨F, L, δ, P, R, .inl ⟨r, δ', e, k⟩⟩
  ex := fun σ H F L δ P c a δ' Q R e k => ⟨F, L, δ, P, R, .inr ⟨c, a, δ', e, k⟩⟩
theorem mn_bcan (f : Ex) : MnT K mg W (bcan K mg W f) f where
  ok := fun σ H F L δ P b δ' Q R e k => ⟨F, L, δ, P, R, .inl ⟨b, δ', e, k⟩⟩
  ex := fun σ H F L δ P c a δ' Q R e k => ⟨F, L, δ, P, R, .inr ⟨c, a, δ', e, k⟩⟩
theorem mn_gcan (S : List Nat) (t : Tgt) : MnG K mg S (gcan K mg S t) t := ⟨fun σ H F L δ P v x δ' Q R hz e k => ⟨F, L, δ, P, x, δ', R, hz, e, k⟩⟩
end
section
variable {X : Cx} {W : WX} {e : Expr} {f : Ex} {S : List Nat} {t : Tgt}
theorem DEx.pe (h : DEx X W e f) : PE X e (ecan X.K X.mg W f) := by
  obtain ⟨t, p, mn⟩ := h
  refine ⟨fun pins s σ H Q I ⟨F, L, δ, P, R, o⟩ => p.run pins s σ H Q I ?_⟩
  rcases o with ⟨r, δ', e, k⟩ | ⟨c, a, δ', e, k⟩
  · exact mn.ok σ H F L δ P r δ' Q R e k
  · exact mn.ex σ H F L δ P c a δ' Q R e k
theorem DTx.pt (h : DTx X W e f) : PT X e (bcan X.K X.mg W f) := by
  obtain ⟨t, p, mn⟩ := h
  refine ⟨fun pins s σ H Q I ⟨F, L, δ, P, R, o⟩ => p.run pins s σ H Q I ?_⟩
  rcases o with ⟨b, δ', e, k⟩ | ⟨c, a, δ', e, k⟩
  · exact mn.ok σ H F L δ P b δ' Q R e k
  · exact mn.ex σ H F L δ P c a δ' Q R e k
theorem DGx.pg (h : DGx X S e t) : PG X e (gcan X.K X.mg S t) := by
  obtain ⟨g, p, mn⟩ := h
  exact ⟨fun pins s σ H v u Q I r ⟨F, L, δ, P, x, δ', R, hz, e, k⟩ => p.run pins s σ H v u Q I r (mn.run σ H F L δ P v x δ' Q R hz e k)⟩
end

/-! ### the comprehension -/
def wipeD (δ : Env) : List Nat → Env
  | [] => δ
  | v :: vs => (wipeD δ vs).set v none
/-- data come back to the names that the block hid -/
def restD (δ0 δ : Env) : List Nat → Env
  | [] => δ
  | v :: vs => (restD δ0 δ vs).set v (match δ0.getD v none with | some (.d x) => some (.d x) | _ => none)
def tstE (c : Option Ex) : Ex := match c with
  | none => fun δ => .ok (.d (.bool true)) δ
  | some f => f
def lcL (vs : List Nat) (t : Tgt) (c : Option Ex) (e : Ex) : List D → Env → List D → Option (List D × Env)
  | [], δ, acc => some (acc, δ)
  | x :: l, δ, acc => match asgT t x (wipeD δ vs) with
    | none => none
    | some δ1 => match tstE c δ1 with
      | .ok (.d (.bool true)) δ2 => (match e δ2 with
        | .ok r δ3 => (match frz r δ3 with
          | some (y, δ4) => if acc.length < 16777216 then lcL vs t c e l δ4 (acc ++ [y]) else none
          | none => none)
        | _ => none)
      | .ok (.d (.bool false)) δ2 => lcL vs t c e l δ2 acc
      | _ => none
def lcR (vs : List Nat) (t : Tgt) (fi : Ix) (c : Option Ex) (e : Ex) : Nx := fun δ => match fi δ with
  | .inl (some (l, δ1)) => (match lcL vs t c e l δ1 [] with
    | some (acc, δ2) => .inl (some (.own acc, restD δ1 δ2 vs))
    | none => .inl none)
  | .inl none => .inl none
  | .inr (c, a, δ1) => .inr (c, a, δ1)
/-- n: how many slots there are -/
def lcN (n : Nat) (vs : List Nat) (t : Tgt) (fi : Ix) (c : Option Ex) (e : Ex) : Nx := fun δ => if δ.length = n then lcR vs t fi c e δ else .inl none
section
variable {K : PySem.W.Frag} {mg : Str → Option Value} {W : WX} {F H F' H' : Hp} {L : Addr → Prop} {σ : St} {δ δ0 : Env} {P P' : Nat → Addr → Prop}
theorem wipeD_len : ∀ vs : List Nat, (wipeD δ vs).length = δ.length
  | [] => rfl
  | v :: vs => by rw [wipeD, List.length_set, wipeD_len vs]
theorem getD_set {α : Type} {l : List (Option α)} {i j : Nat} {x : Option α} : (l.set i x).getD j none = if i = j ∧ i < l.length then x else l.getD j none := by
  by_cases h : i = j
  · subst h
    by_cases hl : i < l.length
    · rw [if_pos ⟨rfl, hl⟩, getD_set_self hl]
    · rw [if_neg fun z => hl z.2, set_ge hl]
  · rw [if_neg fun z => h z.1, getD_set_ne h]
def dropS (P : Nat → Addr → Prop) (vs : List Nat) : Nat → Addr → Prop := fun i a => i ∉ vs ∧ P i a
theorem wipeD_at {i : Nat} : ∀ {vs : List Nat}, (wipeD δ vs).getD i none = if i ∈ vs then none else δ.getD i none
  | [] => by simp [wipeD]
  | v :: vs => by
    rw [wipeD, getD_set, wipeD_at (vs := vs), wipeD_len]
    by_cases h : v = i
    · subst h
      by_cases hl : v < δ.length
      · simp [hl]
      · have : δ.getD v none = none := by
          cases q : δ.getD v none with
          | none => rfl
          | some t => exact absurd (getD_lt q) hl
        simp only [List.mem_cons, true_or, if_true, hl, and_false, if_false]
        split <;> simp_all
    · have h' : ¬ i = v := fun z => h z.symm
      simp [h, h']
theorem wipe_at {i : Nat} : ∀ {vs : List Nat}, (wipe σ vs).getD i none = if i ∈ vs then none else σ.getD i none
  | [] => by simp [wipe]
  | v :: vs => by
    rw [wipe, getD_set, wipe_at (vs := vs), wipe_length]
    by_cases h : v = i
    · subst h
      by_cases hl : v < σ.length
      · simp [hl]
      · have : σ.getD v none = none := by
          cases q : σ.getD v none with
          | none => rfl
          | some t => exact absurd (getD_lt q) hl
        simp only [List.mem_cons, true_or, if_true, hl, and_false, if_false]
        split <;> simp_all
    · have h' : ¬ i = v := fun z => h z.symm
      simp [h, h']
/-- the block's view of the slots -/
theorem Rep.wipe {vs : List Nat} (R : Rep K mg F H L σ δ P) : Rep K mg F H L (wipe σ vs) (wipeD δ vs) (dropS P vs) := by
  refine ⟨R.sub, by rw [wipe_length, wipeD_len]; exact R.len, fun i t e => ?_, fun i a p => ?_, fun i j a p q => R.dj i j a p.2 q.2, R.lk⟩
  · rw [wipeD_at] at e
    split at e
    · cases e
    · rename_i h
      obtain ⟨v, h1, h2⟩ := R.at_ i t e
      refine ⟨v, by rw [wipe_at, if_neg h]; exact h1, ?_⟩
      have : dropS P vs i = P i := by funext a; exact propext ⟨fun z => z.2, fun z => ⟨h, z⟩⟩
      rw [this]; exact h2
  · obtain ⟨t, e⟩ := R.no i a p.2
    exact ⟨t, by rw [wipeD_at, if_neg p.1]; exact e⟩
theorem Wr_dropS {vs : List Nat} {a : Addr} (h : Wr L (dropS P vs) a) : Wr L P a := let ⟨⟨j, _, q⟩, n⟩ := h; ⟨⟨j, q⟩, n⟩
/-- back outside: the slots' values are the old ones -/
theorem Rep.rest {F0 H0 : Hp} {P0 : Nat → Addr → Prop} {vs : List Nat} (R : Rep K mg F' H' L (L2.wipe σ vs) (wipeD δ vs) P) (R0 : Rep K mg F0 H0 L σ δ0 P0) (m : Same F0 F') : Rep K mg F' H' L σ (restD δ0 δ vs) P := by
  have ln : ∀ vs, (restD δ0 δ vs).length = δ.length := fun vs => by
    induction vs with
    | nil => rfl
    | cons v vs ih => rw [restD, List.length_set, ih]
  have at1 : ∀ {i : Nat} {vs : List Nat}, (restD δ0 δ vs).getD i none = if i ∈ vs ∧ i < δ.length then (match δ0.getD i none with | some (.d x) => some (.d x) | _ => none) else δ.getD i none := fun {i vs} => by
    induction vs with
    | nil => simp [restD]
    | cons v vs ih =>
      rw [restD, getD_set, ih, ln]
      by_cases h : v = i
      · subst h
        by_cases hl : v < δ.length
        · simp [hl]
        · simp [hl]
      · have h' : ¬ i = v := fun z => h z.symm
        simp [h, h']
  have lσ : σ.length = δ.length := by have := R.len; rw [wipe_length, wipeD_len] at this; exact this
  have out : ∀ {i a}, P i a → i ∉ vs := fun {i a} p z => by
    obtain ⟨t, e⟩ := R.no i a p
    rw [wipeD_at, if_pos z] at e
    cases e
  refine ⟨R.sub, by rw [ln]; exact lσ, fun i t e => ?_, fun i a p => ?_, R.dj, R.lk⟩
  · rw [at1] at e
    split at e
    · rename_i h
      split at e
      · rename_i x q
        cases e
        obtain ⟨v, h1, h2⟩ := R0.at_ i _ q
        exact ⟨v, h1, h2.1.mono m, fun a p => out p h.1⟩
      · cases e
    · rename_i h
      have hv : i ∉ vs := fun z => h ⟨z, getD_lt e⟩
      obtain ⟨v, h1, h2⟩ := R.at_ i t (by rw [wipeD_at, if_neg hv]; exact e)
      rw [wipe_at, if_neg hv] at h1
      exact ⟨v, h1, h2⟩
  · obtain ⟨t, e⟩ := R.no i a p
    rw [wipeD_at, if_neg (out p)] at e
    exact ⟨t, by rw [at1, if_neg fun z => out p z.1]; exact e⟩
/-- the new list D beside the slots -/
structure Dk (K : PySem.W.Frag) (mg : Str → Option Value) (F H : Hp) (L : Addr → Prop) (P : Nat → Addr → Prop) (D : Addr) (acc : List Dl.D) : Prop where
  ex : ∃ vs, H D = some (.lst vs) ∧ FzAll K mg F vs acc
  nF : F D = none
  nL : ¬ L D
  nU : ¬ U P D
theorem Dk.post {D : Addr} {acc : List Dl.D} (d : Dk K mg F H L P D acc) (p : Post F H (Wr L P) F' H' (Wr L P')) : Dk K mg F' H' L P' D acc := by
  obtain ⟨vs, h1, h2⟩ := d.ex
  have nw : ¬ Wr L P D := fun z => d.nU z.1
  refine ⟨⟨vs, p.keep D _ h1 nw, h2.mono p.mono⟩, ?_, d.nL, fun u => ?_⟩
  · cases q : F' D with
    | none => rfl
    | some x =>
      rcases p.newF D (by rw [q]; simp) with z | z | z
      · exact absurd d.nF z
      · exact absurd z nw
      · rw [h1] at z; cases z
  · rcases p.newW D ⟨u, d.nL⟩ with z | z
    · exact nw z
    · rw [h1] at z; cases z
theorem Dk.put {D : Addr} {acc : List Dl.D} {y : Dl.D} {v : V} (R : Rep K mg F H L σ δ P) (d : Dk K mg F H L P D acc) (hz : Fz K mg F v y) (hl : acc.length < 16777216) : ∃ vs, H D = some (.lst vs) ∧ vs.length < sizeLine ∧
    Rep K mg F (upd H D (.lst (vs ++ [v]))) L σ δ P ∧ Dk K mg F (upd H D (.lst (vs ++ [v]))) L P D (acc ++ [y]) ∧ ∃ σ' δ' P' W', Rep K mg F H L σ' δ' P' ∧ Post F H (Wr L P') F (upd H D (.lst (vs ++ [v]))) W' := by
  obtain ⟨vs, h1, h2⟩ := d.ex
  have ne : ∀ {a : Addr}, U P a → a ≠ D := fun {a} u z => d.nU (z ▸ u)
  refine ⟨vs, h1, by rw [h2.len]; exact szl' hl, ⟨fun a o e => ?_, R.len, fun i t e => ?_, R.no, R.dj, fun a l => ?_⟩, ⟨⟨_, upd_same, h2.append (.cons hz .nil)⟩, d.nF, d.nL, d.nU⟩, ?_⟩
  · have na : a ≠ D := fun z => by rw [z, d.nF] at e; cases e
    rw [upd_ne na]; exact R.sub a o e
  · obtain ⟨w, q1, q2⟩ := R.at_ i t e
    exact ⟨w, q1, q2.step (Same.refl _) (fun a o z p => by rw [upd_ne (ne ⟨i, p⟩)]; exact z) fun a p => (q2.has p).2⟩
  · have na : a ≠ D := fun z => d.nL (z ▸ l)
    rw [upd_ne na]; exact R.lk a l
  · refine ⟨[some (.ref D)], [some (.own acc)], fun i a => i = 0 ∧ a = D, fun a => a = D, ⟨R.sub, rfl, fun i t e => ?_, fun i a p => ?_, fun i j a p q => p.1.trans q.1.symm, R.lk⟩, ⟨Same.refl _, fun a o e n => ?_, fun a e => .inl e, fun a e => .inl ⟨⟨0, rfl, e⟩, e ▸ d.nL⟩⟩⟩
    · cases i with
      | zero =>
        have e' : some (T.own acc) = some t := e
        cases e'
        exact ⟨_, rfl, D, vs, rfl, h1, d.nF, d.nL, h2, fun b => ⟨fun z => z.2, fun z => ⟨rfl, z⟩⟩⟩
      | succ i => simp at e
    · rw [p.1]; exact ⟨_, rfl⟩
    · have na : a ≠ D := fun z => n ⟨⟨0, rfl, z⟩, z ▸ d.nL⟩
      rw [upd_ne na]; exact e
theorem Dk.mono {D : Addr} {acc : List Dl.D} {P2 : Nat → Addr → Prop} (d : Dk K mg F H L P D acc) (h : ∀ a, U P2 a → U P a) : Dk K mg F H L P2 D acc := ⟨d.ex, d.nF, d.nL, fun u => d.nU (h D u)⟩
theorem Post.frame {W W' Z : Addr → Prop} (p : Post F H W F' H' W') : Post F H (fun a => W a ∨ Z a) F' H' (fun a => W' a ∨ Z a) :=
  ⟨p.mono, fun a o e n => p.keep a o e fun z => n (.inl z), fun a e => (p.newF a e).imp id fun z => z.imp .inl id, fun a e => e.elim (fun z => (p.newW a z).imp .inl id) fun z => .inl (.inr z)⟩
mutual
theorem asgT_len : ∀ {t : Tgt} {x : Dl.D} {δ δ' : Env}, asgT t x δ = some δ' → δ'.length = δ.length
  | .nm i, x, δ, δ', e => by simp only [asgT, Option.some.injEq] at e; subst e; exact List.length_set
  | .tp l, x, δ, δ', e => by
    cases x with
    | tuple xs => simp only [asgT] at e; exact asgTs_len e
    | list xs => simp only [asgT] at e; exact asgTs_len e
    | _ => simp [asgT] at e
theorem asgTs_len : ∀ {t : List Tgt} {x : List Dl.D} {δ δ' : Env}, asgTs t x δ = some δ' → δ'.length = δ.length
  | [], [], δ, δ', e => by simp only [asgTs, Option.some.injEq] at e; subst e; rfl
  | t :: ts, x :: xs, δ, δ', e => by
    simp only [asgTs, Option.bind_eq_some_iff] at e
    obtain ⟨δ1, e1, e2⟩ := e
    rw [asgTs_len e2, asgT_len e1]
  | [], _ :: _, δ, δ', e => by simp [asgTs] at e
  | _ :: _, [], δ, δ', e => by simp [asgTs] at e
end
end
section
variable {K : PySem.W.Frag} {mg : Str → Option Value} {W : WX} {vs S : List Nat} {t : Tgt} {fi : Ix} {c : Option Ex} {e : Ex} {wi : TI} {g : TG} {tt : TT} {te : TE} {n : Nat}
theorem wipe_of_agree {σ σ2 : St} (hl : σ2.length = σ.length) (h : ∀ i, i < σ.length → i ∉ vs → σ2.getD i none = (L2.wipe σ vs).getD i none) : L2.wipe σ2 vs = L2.wipe σ vs := by
  refine List.ext_getElem? fun i => ?_
  have ln : (L2.wipe σ2 vs).length = (L2.wipe σ vs).length := by rw [wipe_length, wipe_length, hl]
  by_cases hi : i < σ.length
  · have e : (L2.wipe σ2 vs).getD i none = (L2.wipe σ vs).getD i none := by
      by_cases hv : i ∈ vs
      · rw [wipe_at, wipe_at, if_pos hv, if_pos hv]
      · rw [wipe_at, if_neg hv]; exact h i hi hv
    have a1 : i < (L2.wipe σ2 vs).length := by rw [wipe_length, hl]; exact hi
    have a2 : i < (L2.wipe σ vs).length := by rw [wipe_length]; exact hi
    rw [List.getD_eq_getElem?_getD, List.getD_eq_getElem?_getD, List.getElem?_eq_getElem a1, List.getElem?_eq_getElem a2] at e
    rw [List.getElem?_eq_getElem a1, List.getElem?_eq_getElem a2]
    exact congrArg some e
  · rw [List.getElem?_eq_none (by rw [wipe_length, hl]; omega), List.getElem?_eq_none (by rw [wipe_length]; omega)]
/-- the turns' tests -/
def PtOk (K : PySem.W.Frag) (mg : Str → Option Value) (tt : TT) (c : Option Ex) : Prop := MnT K mg Wn tt (tstE c)
theorem mn_tYes : MnT K mg Wn tYes (tstE none) where
  ok := fun σ H F L δ P b δ' Q R e k => by cases e; exact k H F P Post.refl R
  ex := fun σ H F L δ P c a δ' Q R e k => by cases e
theorem mn_lcR (hi : MnI K mg W wi fi) (hg : MnG K mg S g t) (ht : MnT K mg Wn tt (tstE c)) (he : MnE K mg Wn te e) (hS : ∀ i, i < n → i ∉ vs → i ∈ S) :
    ∀ σ H F L δ P, σ.length = n → Rep K mg F H L σ δ P →
      (∀ (r : T) δ' (Q : VK), lcR vs t fi c e δ = .inl (some (r, δ')) → (∀ v H' F' P' Pr, Post F H (Wr L P) F' H' (fun a => Wr L P' a ∨ Pr a) → Rep K mg F' H' L σ δ' P' → Ow K mg F' H' L v r Pr → (∀ a, Pr a → ¬ U P' a) → Q v H') → tLc wi g tt te vs σ H Q) ∧
      (∀ c1 a δ' (Q : VK), lcR vs t fi c e δ = .inr (c1, a, δ') → (∀ cls d H' F' P', Post F H (Wr L P) F' H' (Wr L P') → Rep K mg F' H' L σ δ' P' → ExcIs K mg F' c1 a cls d → W cls d σ H') → tLc wi g tt te vs σ H Q) := by
  intro σ0 H0 F0 L δ0 P0 hn R0
  refine ⟨fun r δ' Q h k => ?_, fun c1 a δ' Q h k => ?_⟩
  · simp only [lcR] at h
    cases q : fi δ0 with
    | inr p => obtain ⟨c1, a, δ1⟩ := p; rw [q] at h; cases h
    | inl o =>
      cases o with
      | none => rw [q] at h; cases h
      | some p =>
        obtain ⟨l, δ1⟩ := p
        rw [q] at h
        simp only at h
        cases q2 : lcL vs t c e l δ1 [] with
        | none => rw [q2] at h; cases h
        | some p =>
          obtain ⟨accE, δE⟩ := p
          rw [q2] at h
          cases h
          refine hi.ok σ0 H0 F0 L δ0 P0 l δ1 _ R0 q fun J H1 F1 P1 I p1 R1 i1 st wk => fun D nD => ?_
          obtain ⟨R1', p1', o1, d1⟩ := R1.newL (vs := []) (l := []) nD .nil
          obtain ⟨aD, _, eD, _, nFD, nLD, _⟩ := o1
          cases eD
          have Ist : ∀ {F H : Hp} {F' H' : Hp} {σ : St} {δ : Env} {P : Nat → Addr → Prop} {W' : Addr → Prop}, Rep K mg F H L σ δ P → I F H → Post F H (Wr L P) F' H' W' → I F' H' := fun R i p => st _ _ _ _ _ _ _ _ R i p
          have iD : I F1 (upd H1 D (.lst [])) := Ist R1 i1 p1'
          have sw : ∀ {σ2 : St} {δ2 : Env} {F H : Hp} {P : Nat → Addr → Prop}, Rep K mg F H L σ2 δ2 P → δ2.length = σ0.length → Agree S (L2.wipe σ0 vs) σ2 → L2.wipe σ2 vs = L2.wipe σ0 vs := fun R hl ag =>
            wipe_of_agree (by rw [R.len, hl]) fun i hi hv => ag i (hS i (by rw [← hn]; exact hi) hv)
          refine ⟨fun i m H => m = l.length - i ∧ i ≤ l.length ∧ ∃ F P δ acc, Rep K mg F H L (L2.wipe σ0 vs) (wipeD δ vs) P ∧ Dk K mg F H L P D acc ∧ Post F1 H1 (Wr L P1) F H (fun a => Wr L P a ∨ a = D) ∧ I F H ∧ lcL vs t c e (l.drop i) δ acc = some (accE, δE),
            ⟨l.length, by simp, Nat.zero_le _, F1, dropS P1 vs, δ1, [], R1'.wipe, ⟨⟨[], upd_same, .nil⟩, nFD, nLD, fun u => d1 D rfl (let ⟨j, _, z⟩ := u; ⟨j, z⟩)⟩, p1'.weak fun a z => z.imp Wr_dropS id, iD, by rw [List.drop_zero]; exact q2⟩, ?_⟩
          rintro i m H ⟨rfl, hil, F, P, δ, acc, R, dk, po, ih, ee⟩
          by_cases hlt : i < l.length
          · right
            have hd : l.drop i = l[i] :: l.drop (i + 1) := List.drop_eq_getElem_cons hlt
            have hg1 : l[i]? = some l[i] := List.getElem?_eq_getElem hlt
            rw [hd] at ee
            simp only [lcL] at ee
            refine ⟨wk.go F H R.sub ih i _ hg1, fun H' => ∃ F P δ acc, Rep K mg F H' L (L2.wipe σ0 vs) (wipeD δ vs) P ∧ Dk K mg F H' L P D acc ∧ Post F1 H1 (Wr L P1) F H' (fun a => Wr L P a ∨ a = D) ∧ I F H' ∧ lcL vs t c e (l.drop (i + 1)) δ acc = some (accE, δE),
              fun H' h => ⟨l.length - (i + 1), by omega, rfl, hlt, h⟩, fun x H' y => ?_⟩
            obtain ⟨F2, gr, hz⟩ := wk.yld F H i _ x H' R.sub ih hg1 y
            have R2 := R.grow gr
            have ih2 := Ist R ih gr.post
            have dk2 := dk.post gr.post
            have po2 := po.trans gr.post
            cases q3 : asgT t l[i] (wipeD δ vs) with
            | none => rw [q3] at ee; cases ee
            | some δ2 =>
              rw [q3] at ee
              simp only at ee
              refine hg.run _ H' F2 L _ P x _ δ2 _ R2 hz q3 fun σ3 P3 ag3 p3 R3 => ?_
              have l2 : δ2.length = σ0.length := by rw [asgT_len q3]; have := R.len; rw [wipe_length] at this; exact this.symm
              have w3 := sw R3 l2 ag3
              refine ⟨w3, ?_⟩
              have ih3 := Ist R2 ih2 p3
              have dk3 := dk2.post p3
              have po3 := po2.trans (p3.frame (Z := fun a => a = D))
              split at ee
              · rename_i δ3 q4
                refine ht.ok σ3 H' F2 L δ2 P3 true δ3 _ R3 q4 fun H4 F4 P4 p4 R4 => ?_
                rw [if_pos rfl]
                have ih4 := Ist R3 ih3 p4
                have dk4 := dk3.post p4
                have po4 := po3.trans (p4.frame (Z := fun a => a = D))
                split at ee
                · rename_i r δ4 q5
                  split at ee
                  · rename_i y1 δ5 q6
                    split at ee
                    · rename_i hl
                      refine he.ok σ3 H4 F4 L δ3 P4 r δ4 _ R4 q5 fun v H5 F5 P5 p5 R5 rs => ?_
                      obtain ⟨F6, P6, p6, R6, hz6⟩ := R5.freeze rs q6
                      have ih6 := Ist R5 (Ist R4 ih4 p5) p6
                      have dk6 := (dk4.post p5).post p6
                      have po6 := po4.trans ((p5.trans p6).frame (Z := fun a => a = D))
                      obtain ⟨vs7, a1, a2, R7, dk7, σ8, δ8, P8, W8, R8, p8⟩ := dk6.put R6 hz6 hl
                      refine ⟨vs7, a1, a2, F6, dropS P6 vs, δ5, acc ++ [y1], ?_, dk7.mono fun a u => let ⟨j, _, z⟩ := u; ⟨j, z⟩, ?_, Ist R8 ih6 p8, ee⟩
                      · rw [← w3]; exact R7.wipe
                      · refine Post.trans po6 ⟨Same.refl _, fun a o e n => ?_, fun a e => .inl e, fun a z => .inl (z.imp Wr_dropS id)⟩
                        have na : a ≠ D := fun z => n (.inr z)
                        rw [upd_ne na]; exact e
                    · cases ee
                  · cases ee
                · cases ee
              · rename_i δ3 q4
                refine ht.ok σ3 H' F2 L δ2 P3 false δ3 _ R3 q4 fun H4 F4 P4 p4 R4 => ?_
                rw [if_neg Bool.false_ne_true]
                refine ⟨F4, dropS P4 vs, δ3, acc, ?_, (dk3.post p4).mono fun a u => let ⟨j, _, z⟩ := u; ⟨j, z⟩, (po3.trans (p4.frame (Z := fun a => a = D))).weak fun a z => z.imp Wr_dropS id, Ist R3 ih3 p4, ee⟩
                rw [← w3]; exact R4.wipe
              · cases ee
          · left
            have hi2 : i = l.length := by omega
            subst hi2
            rw [List.drop_length] at ee
            simp only [lcL, Option.some.injEq, Prod.mk.injEq] at ee
            obtain ⟨rfl, rfl⟩ := ee
            refine ⟨wk.stop F H R.sub ih _ (Nat.le_refl _), ?_⟩
            obtain ⟨vsE, b1, b2⟩ := dk.ex
            exact k (.ref D) H F P (fun a => a = D) (p1.trans po) (R.rest R1 po.mono) ⟨D, vsE, rfl, b1, dk.nF, dk.nL, b2, fun _ => Iff.rfl⟩ fun a z u => dk.nU (z ▸ u)
  · simp only [lcR] at h
    cases q : fi δ0 with
    | inl o =>
      cases o with
      | none => rw [q] at h; cases h
      | some p =>
        obtain ⟨l, δ1⟩ := p
        rw [q] at h
        simp only at h
        split at h <;> cases h
    | inr p =>
      obtain ⟨c2, a2, δ1⟩ := p
      rw [q] at h
      cases h
      exact hi.ex σ0 H0 F0 L δ0 P0 _ _ _ _ R0 q k
theorem mn_lcN (hi : MnI K mg W wi fi) (hg : MnG K mg S g t) (ht : MnT K mg Wn tt (tstE c)) (he : MnE K mg Wn te e) (hS : ∀ i, i < n → i ∉ vs → i ∈ S) : MnN K mg W (tLc wi g tt te vs) (lcN n vs t fi c e) where
  ok := fun σ H F L δ P r δ' Q R h k => by
    unfold lcN at h
    split at h
    · rename_i hl
      exact (mn_lcR hi hg ht he hS σ H F L δ P (R.len.trans hl) R).1 r δ' Q h k
    · cases h
  ex := fun σ H F L δ P c1 a δ' Q R h k => by
    unfold lcN at h
    split at h
    · rename_i hl
      exact (mn_lcR hi hg ht he hS σ H F L δ P (R.len.trans hl) R).2 c1 a δ' Q h k
    · cases h
end

/-! ### rules -/
/-- the tests of a clause: none, or one -/
def DFx (X : Cx) (ifs : List Expr) (c : Option Ex) : Prop := match ifs, c with
  | [], none => True
  | [e], some f => DTx X Wn e f
  | _, _ => False
def fcan (K : PySem.W.Frag) (mg : Str → Option Value) : Option Ex → TT
  | none => tYes
  | some f => bcan K mg Wn f
theorem DFx.pts {X : Cx} {ifs : List Expr} {c : Option Ex} (h : DFx X ifs c) : PTs X ifs (fcan X.K X.mg c) := by
  unfold DFx at h
  split at h
  · exact pts_nil
  · exact pts_one (DTx.pt h)
  · exact h.elim
theorem mn_fcan {K : PySem.W.Frag} {mg : Str → Option Value} : ∀ c : Option Ex, MnT K mg Wn (fcan K mg c) (tstE c)
  | none => mn_tYes
  | some f => mn_bcan K mg Wn f
section
variable {X : Cx} {W : WX} {S S2 : List Nat} {elt tg iter : Expr} {ifs : List Expr} {scope : Scope} {own : List (Str × Nat)} {pos spos py : Pos} {wi : TI} {fi : Ix} {t : Tgt} {c : Option Ex} {e : Ex} {n : Nat}
theorem dn_lc (own : List (Str × Nat)) (hc : X.calm = true) (hN : X.N.Nodup) (hi : DI X W tg iter wi fi) (ok : blkC X.N X.env.scope scope own = true) (hS : ∀ i, i < n → i ∉ own.map (·.2) → i ∈ S)
    (h : ∀ (s : Shared) (H : Hp) (C : Addr) (cl : List (Str × Addr)) (fp : List Addr), DGx (X.blk s H scope (compEnvC scope cl C X.env) fp) S tg t ∧ DFx (X.blk s H scope (compEnvC scope cl C X.env) fp) ifs c ∧ DEx (X.blk s H scope (compEnvC scope cl C X.env) fp) Wn elt e)
    (hs : ∀ x, foldedSetIterable iter X.env x = pure x := by intro _; rfl) :
    DN X W (.ListComp elt [⟨tg, iter, ifs, 0⟩] scope pos) (tLc wi (gcan X.K X.mg S t) (fcan X.K X.mg c) (ecan X.K X.mg Wn e) (own.map (·.2))) (lcN n (own.map (·.2)) t fi c e) :=
  ⟨pe_lc hc hN hi.pi (blkOk_by ok) (fun s H C cl fp => (h s H C cl fp).1.pg) (fun s H C cl fp => (h s H C cl fp).2.1.pts) (fun s H C cl fp => (h s H C cl fp).2.2.pe) hs,
    mn_lcN hi.mn (mn_gcan _ _ S t) (mn_fcan c) (mn_ecan _ _ Wn e) hS⟩
/-- y = [..], the name beside it on one line -/
theorem ds_setLc (own : List (Str × Nat)) (i : Nat) {y : Str} (hc : X.calm = true) (hN : X.N.Nodup) (hi : DI X W tg iter wi fi) (ok : blkC X.N X.env.scope scope own = true) (hS : ∀ i, i < n → i ∉ own.map (·.2) → i ∈ S)
    (h : ∀ (s : Shared) (H : Hp) (C : Addr) (cl : List (Str × Addr)) (fp : List Addr), DGx (X.blk s H scope (compEnvC scope cl C X.env) fp) S tg t ∧ DFx (X.blk s H scope (compEnvC scope cl C X.env) fp) ifs c ∧ DEx (X.blk s H scope (compEnvC scope cl C X.env) fp) Wn elt e)
    (iS : i ∉ S2) (hy : X.N[i]? = some y) (hl : (py.line == pos.line) = true) (ha : (scope.names.any fun (n, k) => n == y && (k == .local || k == .cell)) = false) (hk : X.env.scope.kind = .function := by rfl) (hyl : X.env.scope.names.lookup y = some .local := by rfl)
    (hs : ∀ x, foldedSetIterable iter X.env x = pure x := by intro _; rfl) :
    DS X W S2 (.Assign [.Name y py] (.ListComp elt [⟨tg, iter, ifs, 0⟩] scope pos) spos) (asgN i (lcN n (own.map (·.2)) t fi c e)) :=
  ⟨_, ps_setLc hc hN hy hyl (sw_true hk hyl hl ha) hi.pi (blkOk_by ok) (fun s H C cl fp => (h s H C cl fp).1.pg) (fun s H C cl fp => (h s H C cl fp).2.1.pts) (fun s H C cl fp => (h s H C cl fp).2.2.pe) hs,
    mn_asgN iS (mn_lcN hi.mn (mn_gcan _ _ S t) (mn_fcan c) (mn_ecan _ _ Wn e) hS)⟩
end
end Dl

/-! DlJ: built-ins over lists, repr, index, count; the call of a local name that holds a def. -/
namespace Dl
open PySem L2

/-! ### repr -/
mutual
/-- what may be shown, and at most how long -/
def rok : D → Bool
  | .none => true
  | .bool _ => true
  | .int i => decide (-(10 ^ 45) < i ∧ i < 10 ^ 45)
  | .str x => PyData.strOk x
  | .list l => roks l
  | .tuple l => roks l
  | .dict _ => false
def roks : List D → Bool
  | [] => true
  | x :: l => rok x && roks l
end
mutual
def rsz : D → Nat
  | .none => 4
  | .bool _ => 5
  | .int _ => 47
  | .str x => 10 * x.length + 2
  | .list l => rszs l + 3
  | .tuple l => rszs l + 3
  | .dict _ => 0
def rszs : List D → Nat
  | [] => 0
  | x :: l => rsz x + 2 + rszs l
end
theorem log_small {n : Nat} (h : n < 10 ^ 45) : n.log2 < 200 := by
  by_cases h0 : n = 0
  · subst h0; decide
  · exact (Nat.log2_lt h0).mpr (Nat.lt_of_lt_of_le h (by decide +kernel))
theorem int_len {i : Int} (h : i.natAbs < 10 ^ 45) : (PySem.Str.ofString (toString i)).length ≤ 47 := by
  by_cases hn : 0 ≤ i
  · obtain ⟨n, rfl⟩ := Int.eq_ofNat_of_zero_le hn
    rw [Int.natAbs_natCast] at h
    have l := TL.numL_len (n := n) (k := 45) (by omega) h
    rw [← TL.tl_num n] at l
    have l' : (PySem.Str.ofString (toString (n : Int))).length ≤ 45 := by simpa [TL.tl, PySem.Str.length] using l
    exact Nat.le_trans l' (by omega)
  · have hneg : i < 0 := by omega
    rw [PyProof.Rows.len_text_neg hneg]
    obtain ⟨n, hn⟩ := Int.eq_ofNat_of_zero_le (show 0 ≤ 0 - i by omega)
    have hn1 : n = i.natAbs := by omega
    have l := TL.numL_len (n := n) (k := 45) (by omega) (by omega)
    rw [← TL.tl_num n] at l
    have l' : (PySem.Str.ofString (toString (n : Int))).length ≤ 45 := by simpa [TL.tl, PySem.Str.length] using l
    rw [hn]
    omega
mutual
theorem rok_show : ∀ {d : D}, rok d = true → d.showable = true
  | .none, _ => rfl
  | .bool _, _ => rfl
  | .int i, h => by
    simp only [rok, decide_eq_true_eq] at h
    have : i.natAbs.log2 < 200 := log_small (by omega)
    simp only [PyData.showable, decide_eq_true_eq]
    omega
  | .str x, _ => rfl
  | .list l, h => by simp only [rok] at h; simpa [PyData.showable] using roks_show h
  | .tuple l, h => by simp only [rok] at h; simpa [PyData.showable] using roks_show h
  | .dict _, h => by simp [rok] at h
theorem roks_show : ∀ {l : List D}, roks l = true → PyData.showableAll l = true
  | [], _ => rfl
  | x :: l, h => by
    simp only [roks, Bool.and_eq_true] at h
    simp only [PyData.showableAll, Bool.and_eq_true]
    exact ⟨rok_show h.1, roks_show h.2⟩
end
mutual
theorem shown_len : ∀ {d : D}, rok d = true → d.shown.length ≤ rsz d
  | .none, _ => by decide +kernel
  | .bool b, _ => by cases b <;> decide +kernel
  | .int i, h => by
    simp only [rok, decide_eq_true_eq] at h
    exact int_len (by omega)
  | .str x, h => by
    simp only [rok, PyData.strOk] at h
    refine StrLaws.reprText_len x fun c hc => ?_
    have := Array.all_eq_true_iff_forall_mem.mp h c (by simpa using hc)
    have : c < 1114112 := by simpa using this
    exact Nat.lt_of_lt_of_le this (by decide)
  | .list l, h => by
    simp only [rok] at h
    have := shown_lens h
    have e := listText_len_le (PyData.shownAll l)
    have e2 : (PyData.shownAll l).length = l.length := shownAll_len l
    show (listText (PyData.shownAll l)).length ≤ rszs l + 3
    rw [e2] at e
    omega
  | .tuple l, h => by
    simp only [rok] at h
    have := shown_lens h
    have e := tupleText_len_le (PyData.shownAll l)
    have e2 : (PyData.shownAll l).length = l.length := shownAll_len l
    show (tupleText (PyData.shownAll l)).length ≤ rszs l + 3
    rw [e2] at e
    omega
  | .dict _, h => by simp [rok] at h
theorem shown_lens : ∀ {l : List D}, roks l = true → ((PyData.shownAll l).map (·.length)).sum + 2 * l.length ≤ rszs l
  | [], _ => by simp [PyData.shownAll, rszs]
  | x :: l, h => by
    simp only [roks, Bool.and_eq_true] at h
    have h1 := shown_len h.1
    have h2 := shown_lens h.2
    simp only [PyData.shownAll, List.map_cons, List.sum_cons, List.length_cons, rszs]
    omega
theorem shownAll_len : ∀ l : List D, (PyData.shownAll l).length = l.length
  | [] => rfl
  | x :: l => by simp only [PyData.shownAll, List.length_cons, shownAll_len l]
end
def gRepr : List D → Option D
  | [d] => if shp d = true ∧ rok d = true ∧ rsz d ≤ 16777216 then some (.str d.shown) else none
  | _ => none
def rRepr (K : PySem.W.Frag) : List V → Hp → VK → Prop := fun xs H Q => ∃ v d, xs = [v] ∧ Dp K H v d ∧ shp d = true ∧ rok d = true ∧ rsz d ≤ 16777216 ∧ Q (.str d.shown) H
section
variable {X : Cx} {k : Nat}
theorem cr_repr (c : Cz X k) : CallR X (.builtin "repr") (rRepr X.K) := by
  intro pins s σ H xs us Q I r h
  obtain ⟨v, d, rfl, hd, sh, ro, sz, q⟩ := h
  obtain ⟨u, rfl, ru⟩ := vals1 r
  have fit : d.shown.length ≤ sizeLine := Nat.le_trans (shown_len ro) (szl sz)
  obtain ⟨as, rd⟩ := Dp.reads I d v u hd ru
  have noD : d.hasDict = true → sysModules ∉ as := fun e => by rw [shp_nd sh] at e; cases e
  have dep : d.depth ≤ 64 := SeqAt.depth_of_shaped sh
  have big : ∀ {a : Addr}, u = .ref a → wpAny (model X.prog X.w) X.A (call (.builtin "repr") [u]) (EP X pins σ Q) X.xe s := fun {a} e => by
    subst e
    exact repr_of_reads' rd (rok_show ro) noD c.grd (by have := c.un; omega) (fun _ _ z => z) (fun h' t tk hk => ⟨.str _, H, I.kept hk, ⟨t, rfl⟩, q⟩) fit
  cases d with
  | none => cases hd; cases ru; exact PySem.P.repr_of_none ⟨.str _, H, I.tok _, ⟨_, rfl⟩, q⟩
  | bool b =>
    cases hd
    cases ru
    have q' : Q (.str (if b = true then PySem.Str.ofString "True" else PySem.Str.ofString "False")) H := by
      cases b
      · exact q
      · exact q
    exact PySem.P.repr_of_bool ⟨.str _, H, I.tok _, ⟨_, rfl⟩, q'⟩
  | int i =>
    cases hd
    obtain ⟨t, rfl⟩ := ru
    have l : i.natAbs.log2 < 1920 := by simpa [PyData.showable] using rok_show ro
    exact PySem.P.repr_of_int l ⟨.str _, H, I.tok _, ⟨_, rfl⟩, q⟩
  | str x =>
    cases hd
    obtain ⟨t, rfl⟩ := ru
    exact PySem.P.repr_of_str ⟨.str _, H, I.tok _, ⟨_, rfl⟩, q⟩ fit
  | list l =>
    cases hd with
    | lst h1 h2 => exact big (a := _) ru
  | tuple l =>
    cases hd with
    | tup h1 h2 => exact big (a := _) ru
  | dict l => simp [rok] at ro
theorem oA_repr {K : PySem.W.Frag} {mg : Str → Option Value} : OpA K mg (rRepr K) gRepr := by
  intro F H vs xs z Q sub hv e k
  unfold gRepr at e
  split at e
  · split at e
    · rename_i h
      cases e
      obtain ⟨v, rfl, hx⟩ := vwAll1 hv
      exact ⟨v, _, rfl, hx.dp sub (shp_nd h.1), h.1, h.2.1, h.2.2, k _ H F (Grow.refl sub) (.str _)⟩
    · cases e
  · cases e
end

/-! ### all, any, sum, max, min, sorted -/
def boolsOf : List D → Option (List Bool)
  | [] => some []
  | .bool b :: l => (boolsOf l).map (b :: ·)
  | _ :: _ => none
theorem boolsOf_eq : ∀ {l : List D} {bs : List Bool}, boolsOf l = some bs → l = bs.map PyData.bool
  | [], bs, h => by cases h; rfl
  | x :: l, bs, h => by
    cases x with
    | bool b =>
      simp only [boolsOf, Option.map_eq_some_iff] at h
      obtain ⟨r, h1, rfl⟩ := h
      rw [List.map_cons, ← boolsOf_eq h1]
    | _ => cases h
theorem FzAll.bools {K : PySem.W.Frag} {mg : Str → Option Value} {F : Hp} : ∀ {vs : List V} {bs : List Bool}, FzAll K mg F vs (bs.map PyData.bool) → vs = bs.map V.bl
  | vs, [], h => by cases h; rfl
  | vs, b :: bs, h => by
    cases h with
    | cons a r => cases a; rw [List.map_cons, r.bools]
def gAll : List D → Option D
  | [.list l] => (boolsOf l).map fun bs => .bool (bs.all id)
  | _ => none
def gAny : List D → Option D
  | [.list l] => (boolsOf l).map fun bs => .bool (bs.any id)
  | _ => none
def gSum : List D → Option D
  | [.list l] => (intsOf l).map fun ns => .int ns.sum
  | _ => none
def gMaxL : List D → Option D
  | [.list l] => (intsOf l).bind fun ns => ns.max?.map .int
  | _ => none
def gMinL : List D → Option D
  | [.list l] => (intsOf l).bind fun ns => ns.min?.map .int
  | _ => none
def nSort : List D → Option (List D)
  | [.list l] => (intsOf l).map fun ns => (ns.mergeSort fun a b => decide (a ≤ b)).map .int
  | _ => none
section
variable {K : PySem.W.Frag} {mg : Str → Option Value}
theorem viewL {F H : Hp} {vs : List V} {l : List D} (hv : VwAll K mg F H vs [.list l]) : ∃ a ws, vs = [.ref a] ∧ SqL K H a ws ∧ FzAll K mg F ws l := by
  obtain ⟨v, rfl, a, ws, rfl, h1, h2⟩ := vwAll1 hv
  exact ⟨a, ws, rfl, .inl (.inl h1), h2⟩
theorem oA_all : OpA K mg (rAll K) gAll := by
  intro F H vs xs z Q sub hv e k
  unfold gAll at e
  split at e
  · obtain ⟨bs, h1, rfl⟩ := Option.map_eq_some_iff.mp e
    obtain ⟨a, ws, rfl, h2, h3⟩ := viewL hv
    rw [boolsOf_eq h1] at h3
    exact ⟨a, bs, rfl, by rw [← h3.bools]; exact h2, k _ H F (Grow.refl sub) (.bl _)⟩
  · cases e
theorem oA_any : OpA K mg (rAny K) gAny := by
  intro F H vs xs z Q sub hv e k
  unfold gAny at e
  split at e
  · obtain ⟨bs, h1, rfl⟩ := Option.map_eq_some_iff.mp e
    obtain ⟨a, ws, rfl, h2, h3⟩ := viewL hv
    rw [boolsOf_eq h1] at h3
    exact ⟨a, bs, rfl, by rw [← h3.bools]; exact h2, k _ H F (Grow.refl sub) (.bl _)⟩
  · cases e
theorem oA_sum : OpA K mg (rSum K) gSum := by
  intro F H vs xs z Q sub hv e k
  unfold gSum at e
  split at e
  · obtain ⟨ns, h1, rfl⟩ := Option.map_eq_some_iff.mp e
    obtain ⟨a, ws, rfl, h2, h3⟩ := viewL hv
    rw [intsOf_eq h1] at h3
    exact ⟨a, ns, rfl, by rw [← h3.ints]; exact h2, k _ H F (Grow.refl sub) (.int _)⟩
  · cases e
theorem oA_maxL : OpA K mg (rMax K) gMaxL := by
  intro F H vs xs z Q sub hv e k
  unfold gMaxL at e
  split at e
  · obtain ⟨ns, h1, e⟩ := Option.bind_eq_some_iff.mp e
    obtain ⟨m, hm, rfl⟩ := Option.map_eq_some_iff.mp e
    obtain ⟨a, ws, rfl, h2, h3⟩ := viewL hv
    rw [intsOf_eq h1] at h3
    obtain ⟨q1, q2⟩ := List.max?_eq_some_iff.mp hm
    refine ⟨a, ns, rfl, by rw [← h3.ints]; exact h2, List.length_pos_of_mem q1, fun m' g1 g2 => ?_⟩
    have : m' = m := Int.le_antisymm (q2 _ g1) (g2 _ q1)
    subst this
    exact k _ H F (Grow.refl sub) (.int _)
  · cases e
theorem oA_minL : OpA K mg (rMin K) gMinL := by
  intro F H vs xs z Q sub hv e k
  unfold gMinL at e
  split at e
  · obtain ⟨ns, h1, e⟩ := Option.bind_eq_some_iff.mp e
    obtain ⟨m, hm, rfl⟩ := Option.map_eq_some_iff.mp e
    obtain ⟨a, ws, rfl, h2, h3⟩ := viewL hv
    rw [intsOf_eq h1] at h3
    obtain ⟨q1, q2⟩ := List.min?_eq_some_iff.mp hm
    refine ⟨a, ns, rfl, by rw [← h3.ints]; exact h2, List.length_pos_of_mem q1, fun m' g1 g2 => ?_⟩
    have : m' = m := Int.le_antisymm (g2 _ q1) (q2 _ g1)
    subst this
    exact k _ H F (Grow.refl sub) (.int _)
  · cases e
theorem oN_sort : OpN K mg (rSortedI K) nSort := by
  intro F H vs xs l Q sub hv e k
  unfold nSort at e
  split at e
  · obtain ⟨ns, h1, rfl⟩ := Option.map_eq_some_iff.mp e
    obtain ⟨a, ws, rfl, h2, h3⟩ := viewL hv
    rw [intsOf_eq h1] at h3
    refine ⟨a, ns, rfl, by rw [← h3.ints]; exact h2, fun ns' p pe so n => ?_⟩
    have e1 : ns' = ns.mergeSort fun a b => decide (a ≤ b) := by
      have s2 : (ns.mergeSort fun a b => decide (a ≤ b)).Pairwise (· ≤ ·) := by
        have := List.pairwise_mergeSort (le := fun a b : Int => decide (a ≤ b)) (fun a b c h1 h2 => by simp only [decide_eq_true_eq] at *; omega) (fun a b => by simp only [Bool.or_eq_true, decide_eq_true_eq]; omega) ns
        simpa using this
      exact List.Perm.eq_of_pairwise (fun a b _ _ h1 h2 => Int.le_antisymm h1 h2) so s2 (pe.trans (List.mergeSort_perm _ _).symm)
    rw [e1]
    exact k p _ n (FzAll.of_ints _)
  · cases e
end

/-! ### index, count of a list -/
def mIndex : D → List D → Option D
  | .list l, [d] => if shp (.list l) = true ∧ shp d = true then (l.findIdx? fun z => PyData.eqv z d).map fun j => .int (j : Nat) else none
  | _, _ => none
def mCount : D → List D → Option D
  | .list l, [d] => if shp (.list l) = true ∧ shp d = true then some (.int ((l.countP fun z => PyData.eqv z d : Nat) : Int)) else none
  | _, _ => none
def rCountD (K : PySem.W.Frag) : V → List V → Hp → VK → Prop := fun x xs H Q => ∃ (a : Addr) (y : V) (d : D) (ds : List D), x = V.ref a ∧ xs = [y] ∧ Dp K H (V.ref a) (.list ds) ∧ Dp K H y d ∧ SeqAt.shaped (.list ds) = true ∧ SeqAt.shaped d = true ∧ Q (.int ((ds.countP fun z => PyData.eqv z d : Nat) : Int)) H
section
variable {X : Cx}
theorem mt_countD (hu : X.A.units + 65 < cLine) : MtR X "list.count" (rCountD X.K) := by
  intro pins s σ H x xs v us Q I rx rxs h
  obtain ⟨a, y, d, ds, rfl, rfl, hl, hy, sl, sd, q⟩ := h
  cases rx
  obtain ⟨uy, rfl, ry⟩ := vals1 rxs
  obtain ⟨bs, r1⟩ := Dp.reads I d y uy hy ry
  cases hl with
  | lst hs ha =>
    obtain ⟨its, rv, ⟨⟨cls, dd, data, sls⟩, n, ho, hc, hdn, hdt⟩, hlen⟩ := I.list hs
    simp only at hc hdt
    subst hc hdt
    obtain ⟨as, h4⟩ := Dp.readsAll I ds _ its ha rv
    have hmap : its.map (SeqAt.readOf s.heap) = ds := SeqAt.readsAll_map ds its as (SeqAt.canLay_of_shaped sl) h4
    refine call_meets PySem.F.slot_list_count ⟨_, ho, rfl⟩ PySem.F.entry_list_count (PySem.F.args_list_count_2 _ _) (SeqAt.list_countAt a its.toArray n dd sls uy (fun u => PyData.eqv (SeqAt.readOf s.heap u) d))
      ⟨ho, SeqAt.items_eqAt (vs := its.toArray) (show ReadsAll s.heap its.toArray.toList ds as from h4) r1 (SeqAt.canLay_of_shaped sl) (SeqAt.canLay_of_shaped sd) (PyProof.Rows.room_in_shaped sd hu), ?_⟩
    have e : its.toArray.toList.countP (fun u => PyData.eqv (SeqAt.readOf s.heap u) d) = ds.countP fun z => PyData.eqv z d := by
      rw [← hmap, List.countP_map]
      rfl
    exact ⟨.int _, H, I.tok _, ⟨s.toks, by rw [e]⟩, q⟩
theorem oM_count {K : PySem.W.Frag} {mg : Str → Option Value} : OpM K mg (rCountD K) mCount := by
  intro F H v vs x xs z Q sub hx hv e k
  unfold mCount at e
  split at e
  · split at e
    · rename_i h
      cases e
      obtain ⟨w, rfl, hw⟩ := vwAll1 hv
      obtain ⟨a, ws, rfl, h1, h2⟩ := id hx
      exact ⟨a, w, _, _, rfl, rfl, hx.dp sub (shp_nd h.1), hw.dp sub (shp_nd h.2), h.1, h.2, k _ H F (Grow.refl sub) (.int _)⟩
    · cases e
  · cases e
theorem oM_index {K : PySem.W.Frag} {mg : Str → Option Value} : OpM K mg (rIndexD K) mIndex := by
  intro F H v vs x xs z Q sub hx hv e k
  unfold mIndex at e
  split at e
  · split at e
    · rename_i l d h
      obtain ⟨j, h1, rfl⟩ := Option.map_eq_some_iff.mp e
      obtain ⟨w, rfl, hw⟩ := vwAll1 hv
      obtain ⟨a, ws, rfl, h2, h3⟩ := id hx
      obtain ⟨h4, h5⟩ := List.findIdx?_eq_some_iff_getElem.mp h1
      refine ⟨a, w, d, l, j, l[j], rfl, rfl, hx.dp sub (shp_nd h.1), hw.dp sub (shp_nd h.2), h.1, h.2, List.getElem?_eq_getElem h4, h5.1, fun m z' hm hz => ?_, k _ H F (Grow.refl sub) (.int _)⟩
      obtain ⟨hm2, e2⟩ := List.getElem?_eq_some_iff.mp hz
      have := h5.2 m hm
      rw [← e2]
      simpa using this
    · cases e
  · cases e
end

/-! ### the call of a local name that holds a def -/
abbrev Tab := Str → Option (Nat × List Nat × (List T → Fo))
structure TabOk (X : Cx) (k : Nat) (tab : Tab) : Prop where
  at_ : ∀ x n S m, tab x = some (n, S, m) → FnD X.prog X.w X.K X.mg X.base x k n S m
theorem Fz.fn_inv {K : PySem.W.Frag} {mg : Str → Option Value} {F : Hp} {v : V} {x : Str} (h : Fz K mg F v (.dict [(.none, .str x)])) : ∃ f, v = .ref f ∧ mg x = some (.ref f) := by
  generalize e : (PyData.dict [(PyData.none, PyData.str x)]) = d at h
  cases h with
  | dk h1 h2 h3 =>
    rename_i kvs ks ds
    cases ks with
    | nil => simp at e
    | cons k ks =>
      cases ds with
      | nil => simp at e
      | cons d ds =>
        simp only [List.map_cons, List.zip_cons_cons, PyData.dict.injEq, List.cons.injEq, Prod.mk.injEq] at e
        exact absurd e.1.1.symm (kD_none k)
  | dt h1 h2 h3 =>
    rename_i kvs ks ds
    cases ks with
    | nil => simp at e
    | cons k ks =>
      cases ds with
      | nil => simp at e
      | cons d ds => simp [tkD] at e
  | fn h =>
    simp only [fnD, PyData.dict.injEq, List.cons.injEq, Prod.mk.injEq, PyData.str.injEq, true_and, and_true] at e
    subst e
    exact ⟨_, rfl, h⟩
  | exc h1 h2 => simp [excD] at e
  | _ => cases e
def callV (i : Nat) (tab : Tab) (fs : List Ex) : Nx := fun δ => match δ.getD i none with
  | some (.d (.dict [(.none, .str x)])) => (match tab x with
    | some (n, S, m) => if fs.length = n then callN S m fs δ else .inl none
    | none => .inl none)
  | _ => .inl none
def tCallV (K : PySem.W.Frag) (mg : Str → Option Value) (W : WX) (tab : Tab) (i : Nat) (tl : TA) : TE := fun σ H Q => ∃ f x n S m, σ[i]? = some (some (.ref f)) ∧ mg x = some (.ref f) ∧ tab x = some (n, S, m) ∧ tCallS (spD K mg n S m) (WE W) tl σ H Q
section
variable {X : Cx} {W : WX} {e : Expr} {es : List Expr} {y : Str} {k k' i : Nat} {tl : TA} {fs : List Ex} {p pos : Pos} {tab : Tab}
theorem mn_callV {K : PySem.W.Frag} {mg : Str → Option Value} (ha : MnA K mg W tl (evA fs)) : MnN K mg W (tCallV K mg W tab i tl) (callV i tab fs) := by
  have key : ∀ {δ : Env}, callV i tab fs δ ≠ .inl none → ∃ x n S m, δ.getD i none = some (.d (.dict [(.none, .str x)])) ∧ tab x = some (n, S, m) ∧ fs.length = n ∧ callV i tab fs δ = callN S m fs δ := fun {δ} h => by
    unfold callV at h ⊢
    split at h
    · rename_i x e0
      split at h
      · rename_i n S m e1
        split at h
        · rename_i hl
          exact ⟨x, n, S, m, e0, e1, hl, by simp only [e1, if_pos hl]⟩
        · exact absurd rfl h
      · exact absurd rfl h
    · exact absurd rfl h
  refine ⟨fun σ H F L δ P r δ' Q R h k => ?_, fun σ H F L δ P c a δ' Q R h k => ?_⟩
  · obtain ⟨x, n, S, m, e0, e1, hl, e2⟩ := key (by rw [h]; simp)
    obtain ⟨v, h1, h2⟩ := R.at_ i _ e0
    obtain ⟨f, rfl, hf⟩ := h2.1.fn_inv
    exact ⟨f, x, n, S, m, getD_some h1, hf, e1, (mn_callN hl ha).ok σ H F L δ P r δ' Q R (e2 ▸ h) k⟩
  · obtain ⟨x, n, S, m, e0, e1, hl, e2⟩ := key (by rw [h]; simp)
    obtain ⟨v, h1, h2⟩ := R.at_ i _ e0
    obtain ⟨f, rfl, hf⟩ := h2.1.fn_inv
    exact ⟨f, x, n, S, m, getD_some h1, hf, e1, (mn_callN hl ha).ex σ H F L δ P c a δ' Q R (e2 ▸ h) k⟩
theorem dn_callV (T : TabOk X k tab) (c : Ctx X k') (hk : k ≤ k') (tk : Takes X W) (hN : X.N[i]? = some y) (ha : DA X W (e :: es) tl (evA fs)) (hv : Vis X.env.scope y := by first | exact Or.inl rfl | exact Or.inr (Or.inl rfl) | exact Or.inr (Or.inr rfl)) (hdb : (y == ("__debug__" : Str)) = false := by decide) (hcd : (y == ("__classdict__" : Str)) = false := by decide)
    (he : starEach (e :: es) X.env = (false, eval e X.env) :: starEach es X.env := by rfl) (hpl : (backTo pos (starEach es X.env)).any (·.1) = false := by rfl) : DN X W (.Call (.Name y p) (e :: es) [] pos) (tCallV X.K X.mg W tab i tl) (callV i tab fs) where
  pe := ⟨fun pins s σ H Q I h => by
    obtain ⟨f, x, n, S, m, hs, hm, ht, h⟩ := h
    obtain ⟨f', fd, ps, hm', kp, hn, bi, G⟩ := (T.at_ x n S m ht).ex
    obtain rfl : f = f' := by
      have := hm.symm.trans hm'
      cases this
      rfl
    refine wpAny_Call_Name_kw (thn ((pe_var (pos := p) hN hv hdb hcd).run pins s σ H (fun v H1 => v = .ref f ∧ H1 = H) I ⟨.ref f, hs, rfl, rfl⟩) ?_)
    rintro u s0 ⟨v, H0, I0, r0, rfl, rfl⟩
    obtain rfl : u = Value.ref f := r0
    refine PySem.W.callWith_K (h₀ := X.base) I.ok.mod.kin kp (thn (ha.pe.run pos pins s0 σ H0 _ I0 h) ?_) he hpl
    rintro us s1 ⟨vs, H1, I1, rv, q⟩
    exact ⟨I1.kIn, G.call (c.down hk) bi tk I1 rv q⟩⟩
  mn := mn_callV ha.mn
end
end Dl

/-! DlR: rules as the printed proofs use them. -/
namespace Dl
open PySem L2

section
variable {X : Cx} {W : WX} {S : List Nat} {a b e : Expr} {es : List Expr} {fa fb : Ex} {fs : List Ex} {ta tb : TE} {tl : TA} {x : Str} {k i : Nat} {pos p p1 p2 : Pos}
/-! names of the module -/
theorem de_globJ {i : Int} (h : ∃ t, X.mg x = some (.int i t)) (hg : Gl X x := by rfl) (hd : (x == ("__debug__" : Str)) = false := by decide) : DE X W (.Name x pos) (tC (.int i)) (cst (.int i)) := by
  obtain ⟨t, hm⟩ := h
  exact de_globI hm ⟨t, rfl⟩ hg hd
def tFn (mg : Str → Option Value) (x : Str) : TE := fun σ H Q => ∃ f, mg x = some (.ref f) ∧ Q (.ref f) H
theorem de_fn {k n : Nat} {S : List Nat} {m : List T → Fo} (h : FnD X.prog X.w X.K X.mg X.base x k n S m) (hg : Gl X x := by rfl) (hd : (x == ("__debug__" : Str)) = false := by decide) : DE X W (.Name x pos) (tFn X.mg x) (cst (fnD x)) where
  pe := ⟨fun pins s σ H Q I ⟨f, hm, q⟩ => (pe_glob (v := .ref f) hg hm rfl hd).run pins s σ H Q I q⟩
  mn := by
    obtain ⟨f, _, _, hm, _⟩ := h.ex
    exact ⟨fun σ H F L δ P r δ' Q R e k => by cases e; exact ⟨f, hm, k _ H F P Post.refl R (.fn hm)⟩, fun σ H F L δ P c a δ' Q R e k => by cases e⟩
/-! comparisons -/
theorem de_eq (ha : DE X W a ta fa) (hb : DE X W b tb fb) (cz : Cz X k) (hm : behindInMarks .Eq b = false := by rfl) : DE X W (.Compare a [.Eq] [b] pos) (tOp (rEqE X.K) ta tb) (op2 gEq fa fb) := de_cmp (op_eqE (by have := cz.un; omega)) o2_eq ha hb hm
theorem de_ne (ha : DE X W a ta fa) (hb : DE X W b tb fb) (cz : Cz X k) (hm : behindInMarks .NotEq b = false := by rfl) : DE X W (.Compare a [.NotEq] [b] pos) (tOp (rNeE X.K) ta tb) (op2 gNe fa fb) := de_cmp (op_neE (by have := cz.un; omega)) o2_ne ha hb hm
theorem Cz.u64 (cz : Cz X k) : X.A.units + 64 < cLine := by have := cz.un; omega
theorem bt_len : bootBuiltins "len" = some (.builtin "len") := by decide +kernel
theorem bt_abs : bootBuiltins "abs" = some (.builtin "abs") := by decide +kernel
theorem bt_max : bootBuiltins "max" = some (.builtin "max") := by decide +kernel
theorem bt_min : bootBuiltins "min" = some (.builtin "min") := by decide +kernel
theorem bt_sum : bootBuiltins "sum" = some (.builtin "sum") := by decide +kernel
theorem bt_all : bootBuiltins "all" = some (.builtin "all") := by decide +kernel
theorem bt_any : bootBuiltins "any" = some (.builtin "any") := by decide +kernel
theorem bt_repr : bootBuiltins "repr" = some (.builtin "repr") := by decide +kernel
theorem bt_sorted : bootBuiltins "sorted" = some (.builtin "sorted") := by decide +kernel
theorem bt_isinstance : bootBuiltins "isinstance" = some (.builtin "isinstance") := by decide +kernel
theorem bt_int : bootBuiltins "int" = some (.type "int") := by decide +kernel
theorem bt_bool : bootBuiltins "bool" = some (.type "bool") := by decide +kernel
theorem bt_str : bootBuiltins "str" = some (.type "str") := by decide +kernel
theorem bt_list : bootBuiltins "list" = some (.type "list") := by decide +kernel
theorem bt_tuple : bootBuiltins "tuple" = some (.type "tuple") := by decide +kernel
theorem bt_dict : bootBuiltins "dict" = some (.type "dict") := by decide +kernel
/-! new lists -/
theorem dn_lst (h : DA X W es tl (evA fs)) (hl : fs.length ≤ 1000 := by exact Nat.le_of_ble_eq_true rfl) : DN X W (.List es pos) (tLst tl) (newL fs) := ⟨pe_lst h.pe, mn_newL h.mn hl⟩
theorem dn_callTy {id : String} {r : List V → Hp → VK → Prop} {g : List D → Option (List D)} (hc : CallR X (.type id) r) (hgr : OpN X.K X.mg r g) (hm : X.mg x = none) (hv : bootBuiltins x = some (.type id)) (ha : DA X W (e :: es) tl (evA fs)) (hg : Gl X x := by rfl) (hn : x ≠ "__name__" := by decide) (hdb : (x == ("__debug__" : Str)) = false := by decide)
    (he : starEach (e :: es) X.env = (false, eval e X.env) :: starEach es X.env := by rfl) (hpl : (backTo pos (starEach es X.env)).any (·.1) = false := by rfl) : DN X W (.Call (.Name x p) (e :: es) [] pos) (tCB r tl) (newA g fs) :=
  ⟨pe_callTy hc hg hm hv ha.pe hn hdb he hpl, mn_newA hgr ha.mn⟩
theorem dn_callB {id : String} {r : List V → Hp → VK → Prop} {g : List D → Option (List D)} (hc : CallR X (.builtin id) r) (hgr : OpN X.K X.mg r g) (hm : X.mg x = none) (hv : bootBuiltins x = some (.builtin id)) (ha : DA X W (e :: es) tl (evA fs)) (hg : Gl X x := by rfl) (hn : x ≠ "__name__" := by decide) (hdb : (x == ("__debug__" : Str)) = false := by decide)
    (he : starEach (e :: es) X.env = (false, eval e X.env) :: starEach es X.env := by rfl) (hpl : (backTo pos (starEach es X.env)).any (·.1) = false := by rfl) : DN X W (.Call (.Name x p) (e :: es) [] pos) (tCB r tl) (newA g fs) :=
  ⟨pe_callB hc hg hm hv ha.pe hn hdb he hpl, mn_newA hgr ha.mn⟩
/-! methods of lists -/
variable {name : Str} {apos cpos : Pos} {T id : String} {r : V → List V → Hp → VK → Prop}
theorem de_meth {g : D → List D → Option D} {o : Expr} {to : TE} {fo : Ex} (pa : PlainAttrs T) (slot : Slot T name id) (hty : typeOf (.builtin id) = pure (.type "method_descriptor")) (hm : MtR X id r) (hr : OpM X.K X.mg r g) (ho : DE X W o to fo) (ha : DA X W (e :: es) tl (evA fs))
    (hbase : attributeBase o name X.env (eval o X.env) = eval o X.env := by rfl)
    (hfew : ((backTo cpos (starEach (e :: es) X.env)).all (fun x => !x.1) && (backToKw cpos (keywordEach [] X.env)).all (fun x => x.1.isSome)
      && decide ((e :: es).length + ([] : List Keyword).length + (if ([] : List Keyword).isEmpty then 0 else 1) < 30)) = true := by rfl)
    (hline : (apos.endLine == cpos.line) = true := by rfl) (hs : starEach (e :: es) X.env = (false, eval e X.env) :: starEach es X.env := by rfl) (hplain : (backTo cpos (starEach es X.env)).any (·.1) = false := by rfl) :
    DE X W (.Call (.Attribute o name apos) (e :: es) [] cpos) (tBM X.K T r to tl) (meE T g fo fs) := ⟨pe_bm pa slot hty hm ho.pe ha.pe hbase hfew hline hs hplain, mn_me hr ho.mn ha.mn⟩
theorem de_index {o : Expr} {to : TE} {fo : Ex} (cz : Cz X k) (ho : DE X W o to fo) (ha : DA X W [e] tl (evA fs)) (hbase : attributeBase o "index" X.env (eval o X.env) = eval o X.env := by rfl) (hline : (apos.endLine == cpos.line) = true := by rfl)
    (hfew : ((backTo cpos (starEach [e] X.env)).all (fun x => !x.1) && (backToKw cpos (keywordEach [] X.env)).all (fun x => x.1.isSome) && decide ([e].length + ([] : List Keyword).length + (if ([] : List Keyword).isEmpty then 0 else 1) < 30)) = true := by rfl)
    (hs : starEach [e] X.env = (false, eval e X.env) :: starEach [] X.env := by rfl) (hplain : (backTo cpos (starEach [] X.env)).any (·.1) = false := by rfl) :
    DE X W (.Call (.Attribute o "index" apos) [e] [] cpos) (tBM X.K "list" (rIndexD X.K) to tl) (meE "list" mIndex fo fs) :=
  de_meth PySem.F.plainAttrs_list PySem.F.slot_list_index PySem.F.type_list_index (mt_indexD cz.u65) oM_index ho ha hbase hfew hline hs hplain
theorem de_count {o : Expr} {to : TE} {fo : Ex} (cz : Cz X k) (ho : DE X W o to fo) (ha : DA X W [e] tl (evA fs)) (hbase : attributeBase o "count" X.env (eval o X.env) = eval o X.env := by rfl) (hline : (apos.endLine == cpos.line) = true := by rfl)
    (hfew : ((backTo cpos (starEach [e] X.env)).all (fun x => !x.1) && (backToKw cpos (keywordEach [] X.env)).all (fun x => x.1.isSome) && decide ([e].length + ([] : List Keyword).length + (if ([] : List Keyword).isEmpty then 0 else 1) < 30)) = true := by rfl)
    (hs : starEach [e] X.env = (false, eval e X.env) :: starEach [] X.env := by rfl) (hplain : (backTo cpos (starEach [] X.env)).any (·.1) = false := by rfl) :
    DE X W (.Call (.Attribute o "count" apos) [e] [] cpos) (tBM X.K "list" (rCountD X.K) to tl) (meE "list" mCount fo fs) :=
  de_meth PySem.F.plainAttrs_list PySem.F.slot_list_count PySem.F.type_list_count (mt_countD cz.u65) oM_count ho ha hbase hfew hline hs hplain
/-- x.m(..) that changes the owned list x -/
theorem de_change (i : Nat) {g : List D → List D → Option (D × List D)} (slot : Slot "list" name id) (hty : typeOf (.builtin id) = pure (.type "method_descriptor")) (hm : MtR X id r) (hr : OpC X.K X.mg r g) (hN : X.N[i]? = some x) (ha : DA X W (e :: es) tl (evA fs))
    (hv : Vis X.env.scope x := by first | exact Or.inl rfl | exact Or.inr (Or.inl rfl) | exact Or.inr (Or.inr rfl)) (hd : (x == ("__debug__" : Str)) = false := by decide) (hcd : (x == ("__classdict__" : Str)) = false := by decide)
    (hbase : attributeBase (.Name x p) name X.env (eval (.Name x p) X.env) = eval (.Name x p) X.env := by rfl)
    (hfew : ((backTo cpos (starEach (e :: es) X.env)).all (fun x => !x.1) && (backToKw cpos (keywordEach [] X.env)).all (fun x => x.1.isSome)
      && decide ((e :: es).length + ([] : List Keyword).length + (if ([] : List Keyword).isEmpty then 0 else 1) < 30)) = true := by rfl)
    (hline : (apos.endLine == cpos.line) = true := by rfl) (hs : starEach (e :: es) X.env = (false, eval e X.env) :: starEach es X.env := by rfl) (hplain : (backTo cpos (starEach es X.env)).any (·.1) = false := by rfl) :
    DE X W (.Call (.Attribute (.Name x p) name apos) (e :: es) [] cpos) (tBM X.K "list" r (tVar i) tl) (chE i g fs) := ⟨pe_bm PySem.F.plainAttrs_list slot hty hm (pe_var hN hv hd hcd) ha.pe hbase hfew hline hs hplain, mn_ch hr ha.mn⟩
theorem de_extend (i : Nat) (hN : X.N[i]? = some x) (ha : DE X W e ta fa)
    (hv : Vis X.env.scope x := by first | exact Or.inl rfl | exact Or.inr (Or.inl rfl) | exact Or.inr (Or.inr rfl)) (hd : (x == ("__debug__" : Str)) = false := by decide) (hcd : (x == ("__classdict__" : Str)) = false := by decide)
    (hbase : attributeBase (.Name x p) "extend" X.env (eval (.Name x p) X.env) = eval (.Name x p) X.env := by rfl)
    (hfew : ((backTo cpos (starEach [e] X.env)).all (fun x => !x.1) && (backToKw cpos (keywordEach [] X.env)).all (fun x => x.1.isSome) && decide ([e].length + ([] : List Keyword).length + (if ([] : List Keyword).isEmpty then 0 else 1) < 30)) = true := by rfl)
    (hline : (apos.endLine == cpos.line) = true := by rfl) (hs : starEach [e] X.env = (false, eval e X.env) :: starEach [] X.env := by rfl) (hplain : (backTo cpos (starEach [] X.env)).any (·.1) = false := by rfl) :
    DE X W (.Call (.Attribute (.Name x p) "extend" apos) [e] [] cpos) (tBM X.K "list" rExtend (tVar i) (tCons ta tNil)) (exE i fa) :=
  ⟨pe_bm PySem.F.plainAttrs_list PySem.F.slot_list_extend PySem.F.type_list_extend mt_extend (pe_var hN hv hd hcd) (pa_cons ha.pe pa_nil hs) hbase hfew hline hs hplain, mn_exE ha.mn⟩
/-- x.pop() -/
theorem de_pop (i : Nat) (hN : X.N[i]? = some x)
    (hv : Vis X.env.scope x := by first | exact Or.inl rfl | exact Or.inr (Or.inl rfl) | exact Or.inr (Or.inr rfl)) (hd : (x == ("__debug__" : Str)) = false := by decide) (hcd : (x == ("__classdict__" : Str)) = false := by decide)
    (hbase : attributeBase (.Name x p) "pop" X.env (eval (.Name x p) X.env) = eval (.Name x p) X.env := by rfl) (hline : (apos.endLine == cpos.line) = true := by rfl) :
    ∃ t, DE X W (.Call (.Attribute (.Name x p) "pop" apos) [] [] cpos) t (chE i cPop []) := by
  have mn := mn_ch (W := W) (i := i) (oC_pop (K := X.K) (mg := X.mg)) mn_nil
  refine ⟨_, pe_bm0 PySem.F.plainAttrs_list PySem.F.slot_list_pop PySem.F.type_list_pop mt_pop (pe_var hN hv hd hcd) hbase hline, ⟨fun σ H F L δ P r δ' Q R e k => mn.ok σ H F L δ P r δ' Q R e k, fun σ H F L δ P c a δ' Q R e k => mn.ex σ H F L δ P c a δ' Q R e k⟩⟩
/-! statements -/
theorem ds_setIx (i : Nat) {pos' spos : Pos} {j : Expr} {tj te : TE} {fj fe : Ex} (he : DE X W e te fe) (hj : DE X W j tj fj) (hN : X.N[i]? = some x) (hv : Vis X.env.scope x := by first | exact Or.inl rfl | exact Or.inr (Or.inl rfl) | exact Or.inr (Or.inr rfl)) (hd : (x == ("__debug__" : Str)) = false := by decide) (hcd : (x == ("__classdict__" : Str)) = false := by decide)
    (ha : ∀ v, assign (.Subscript (.Name x p) j pos') X.env v = (do
      let ov ← holding [v] (eval (.Name x p) X.env)
      let iv ← holding [v, ov] (eval j X.env)
      standAt pos'
      holding [v, ov, iv] (setItem ov iv v)
      release [v, ov, iv] []) := by intro _; rfl)
    (hs : swapsWithSole [.Subscript (.Name x p) j pos'] e spos.line X.env = pure false := by rfl) (hw : swappedStores [.Subscript (.Name x p) j pos'] e X.env = pure none := by rfl) (h1 : (assignEach [.Subscript (.Name x p) j pos'] X.env).map (·.2) = [assign (.Subscript (.Name x p) j pos') X.env] := by rfl) :
    DS X W S (.Assign [.Subscript (.Name x p) j pos'] e spos) (setIx i fe fj) :=
  ⟨_, ps_asg he.pe (pg_sub (pe_var (i := i) hN hv hd hcd) hj.pe set_list ha) hs hw h1, mn_setIx he.mn hj.mn⟩
theorem ds_aug (i : Nat) {op : Operator} {rr : R2} {g : D → D → Option D} {pos' spos : Pos} {te : TE} {fe : Ex} (ho : PIp X op rr) (hr : Op2 X.K X.mg rr g) (hN : X.N.Nodup) (he : DE X W e te fe) (hS : i ∉ S := by decide) (hi : X.N[i]? = some x := by rfl) (hx : Loc X.env.scope x := by first | exact Or.inl rfl | exact Or.inr rfl) (hf : X.fn x = true ∨ X.env.scope.names.lookup x = some .local := by first | exact .inl rfl | exact .inr rfl) :
    DS X W S (.AugAssign (.Name x pos') op e spos) (augS i g fe) := ⟨_, ps_aug hN hi hx he.pe ho hf, mn_aug hS hr he.mn⟩
theorem ds_del (i : Nat) {spos tpos : Pos} {j : Expr} {tj : TE} {fj : Ex} (hj : DE X W j tj fj) (hN : X.N[i]? = some x) (hv : Vis X.env.scope x := by first | exact Or.inl rfl | exact Or.inr (Or.inl rfl) | exact Or.inr (Or.inr rfl)) (hd : (x == ("__debug__" : Str)) = false := by decide) (hcd : (x == ("__classdict__" : Str)) = false := by decide) :
    DS X W S (.Delete [.Subscript (.Name x p) j tpos] spos) (delIx i fj) := ⟨_, ps_delL (pe_var hN hv hd hcd) hj.pe, mn_delIx hj.mn⟩
end

theorem blkC_ctx {X : Cx} {k : Nat} {s : Shared} {H : Hp} {scope : Scope} {cenv : PySem.Env} {fp : List Addr} (c : Ctx X k) : Ctx (X.blk s H scope cenv fp) k := ⟨⟨c.dp, c.un, c.grd⟩, c.calm, c.hd⟩
theorem DEx.de {X : Cx} {W : WX} {e : Expr} {f : Ex} (h : DEx X W e f) : DE X W e (ecan X.K X.mg W f) f := ⟨h.pe, mn_ecan X.K X.mg W f⟩
section
variable {X : Cx} {W : WX} {S S2 : List Nat} {elt tg iter : Expr} {ifs : List Expr} {scope : Scope} {pos spos py : Pos} {wi : TI} {fi : Ix} {t : Tgt} {c : Option Ex} {e : Ex} {n : Nat}
theorem ds_setLcF (own : List (Str × Nat)) (i : Nat) {y : Str} (hc : X.calm = true) (hN : X.N.Nodup) (hi : DI X W tg iter wi fi) (ok : blkC X.N X.env.scope scope own = true) (hS : ∀ i, i < n → i ∉ own.map (·.2) → i ∈ S)
    (h : ∀ (s : Shared) (H : Hp) (C : Addr) (cl : List (Str × Addr)) (fp : List Addr), DGx (X.blk s H scope (compEnvC scope cl C X.env) fp) S tg t ∧ DFx (X.blk s H scope (compEnvC scope cl C X.env) fp) ifs c ∧ DEx (X.blk s H scope (compEnvC scope cl C X.env) fp) Wn elt e)
    (iS : i ∉ S2) (hy : X.N[i]? = some y) (hl : (py.line == pos.line) = true) (ha : (scope.names.any fun (n, k) => n == y && (k == .local || k == .cell)) = false) (hk : X.env.scope.kind = .function := by rfl) (hyl : X.env.scope.names.lookup y = some .local := by rfl)
    (hs : ∀ x, foldedSetIterable iter X.env x = pure x := by intro _; rfl) :
    DS X W S2 (.Assign [.Name y py] (.ListComp elt [⟨tg, iter, ifs, 0⟩] scope pos) spos) (asgS i (ofN (lcN n (own.map (·.2)) t fi c e))) :=
  ⟨_, ps_setLc hc hN hy hyl (sw_true hk hyl hl ha) hi.pi (blkOk_by ok) (fun s H C cl fp => (h s H C cl fp).1.pg) (fun s H C cl fp => (h s H C cl fp).2.1.pts) (fun s H C cl fp => (h s H C cl fp).2.2.pe) hs,
    mn_asg iS (mn_ofN (mn_lcN hi.mn (mn_gcan _ _ S t) (mn_fcan c) (mn_ecan _ _ Wn e) hS))⟩
theorem ds_setLcK (jl : Nat) (own : List (Str × Nat)) (i : Nat) {y : Str} (hc : X.calm = true) (hN : X.N.Nodup) (hi : DI X W tg iter wi fi) (ok : blkC X.N X.env.scope scope own = true) (hS : ∀ i, i < n → i ∉ own.map (·.2) → i ∈ S)
    (h : ∀ (s : Shared) (H : Hp) (C : Addr) (cl : List (Str × Addr)) (fp : List Addr), DGx (X.blk s H scope (compEnvC scope cl C X.env) fp) S tg t ∧ DFx (X.blk s H scope (compEnvC scope cl C X.env) fp) ifs c ∧ DEx (X.blk s H scope (compEnvC scope cl C X.env) fp) Wn elt e)
    (iS : i ∉ S2) (hy : X.N[i]? = some y) (hl : (py.line == pos.line) = true) (ha : (scope.names.any fun (n, k) => n == y && (k == .local || k == .cell)) = false) (hk : X.env.scope.kind = .function := by rfl) (hyl : X.env.scope.names.lookup y = some .local := by rfl)
    (hs : ∀ x, foldedSetIterable iter X.env x = pure x := by intro _; rfl) :
    DS X W S2 (.Assign [.Name y py] (.ListComp elt [⟨tg, iter, ifs, 0⟩] scope pos) spos) (asgN i (lockN jl (lcN n (own.map (·.2)) t fi c e))) :=
  ⟨_, ps_setLc hc hN hy hyl (sw_true hk hyl hl ha) hi.pi (blkOk_by ok) (fun s H C cl fp => (h s H C cl fp).1.pg) (fun s H C cl fp => (h s H C cl fp).2.1.pts) (fun s H C cl fp => (h s H C cl fp).2.2.pe) hs,
    mn_asgN iS (mn_lockN (mn_lcN hi.mn (mn_gcan _ _ S t) (mn_fcan c) (mn_ecan _ _ Wn e) hS))⟩
theorem ds_setLcFK (jl : Nat) (own : List (Str × Nat)) (i : Nat) {y : Str} (hc : X.calm = true) (hN : X.N.Nodup) (hi : DI X W tg iter wi fi) (ok : blkC X.N X.env.scope scope own = true) (hS : ∀ i, i < n → i ∉ own.map (·.2) → i ∈ S)
    (h : ∀ (s : Shared) (H : Hp) (C : Addr) (cl : List (Str × Addr)) (fp : List Addr), DGx (X.blk s H scope (compEnvC scope cl C X.env) fp) S tg t ∧ DFx (X.blk s H scope (compEnvC scope cl C X.env) fp) ifs c ∧ DEx (X.blk s H scope (compEnvC scope cl C X.env) fp) Wn elt e)
    (iS : i ∉ S2) (hy : X.N[i]? = some y) (hl : (py.line == pos.line) = true) (ha : (scope.names.any fun (n, k) => n == y && (k == .local || k == .cell)) = false) (hk : X.env.scope.kind = .function := by rfl) (hyl : X.env.scope.names.lookup y = some .local := by rfl)
    (hs : ∀ x, foldedSetIterable iter X.env x = pure x := by intro _; rfl) :
    DS X W S2 (.Assign [.Name y py] (.ListComp elt [⟨tg, iter, ifs, 0⟩] scope pos) spos) (asgS i (ofN (lockN jl (lcN n (own.map (·.2)) t fi c e)))) :=
  ⟨_, ps_setLc hc hN hy hyl (sw_true hk hyl hl ha) hi.pi (blkOk_by ok) (fun s H C cl fp => (h s H C cl fp).1.pg) (fun s H C cl fp => (h s H C cl fp).2.1.pts) (fun s H C cl fp => (h s H C cl fp).2.2.pe) hs,
    mn_asg iS (mn_ofN (mn_lockN (mn_lcN hi.mn (mn_gcan _ _ S t) (mn_fcan c) (mn_ecan _ _ Wn e) hS)))⟩
end
/-- return f(e), e the held error -/
theorem par_ret {i : Nat} {m : Addr → Addr → Str → List T → Fo} (h : ∀ a dd c x, m a dd c [.d (excD a dd c x)] = m 0 0 c [.d (excD 0 0 c x)]) : Par i (fun a dd c => retN (callN [] (m a dd c) [var i])) := by
  intro a dd c x δ
  by_cases hi : i < δ.length
  · simp only [retN, callN, evA, var, getD_set_self hi, callA, dis, slotOf, argTs, argT, List.all_nil, Bool.and_self, Bool.true_and, if_true, putU]
    rw [h]
    cases m 0 0 c [.d (excD 0 0 c x)] with
    | ret r us => simp [Out.unset]
    | ex c2 a2 us => simp [Out.unset]
    | bad => simp [Out.unset]
  · have e1 : ∀ t : Option T, δ.set i t = δ := fun t => set_ge hi
    have e2 : δ.getD i none = none := by
      cases q : δ.getD i none with
      | none => rfl
      | some t => exact absurd (getD_lt q) hi
    simp only [e1, retN, callN, evA, var, e2]
end Dl

/-! DlS: a, b = x, y among locals of one line (stored from the right). -/
namespace Dl
open PySem L2
def SwOk (X : Cx) (S : List Nat) : List Nat → List Str → Prop
  | i :: is, x :: xs => X.N[i]? = some x ∧ X.env.scope.names.lookup x = some .local ∧ i ∉ S ∧ SwOk X S is xs
  | [], [] => True
  | _, _ => False
def gNames : List Nat → TGs
  | [] => gNil
  | i :: is => gCons (gName i) (gNames is)
/-- js: the slots from the right -/
def tSwp (K : PySem.W.Frag) (js : List Nat) (te : TE) : TS := fun D σ H => te σ H fun x H1 => ∃ a vs, x = .ref a ∧ SqT K H1 a vs ∧ vs.length = js.length ∧ gNames js vs.reverse σ H1 D.nx
def asgR (js : List Nat) (f : Ex) : Sx := fun δ => (f δ).out fun r δ1 => match frz r δ1 with
  | some (.tuple xs, δ2) => (match asgTs (js.map .nm) xs.reverse δ2 with
    | some δ3 => .nx δ3
    | none => .bad)
  | _ => .bad
section
variable {X : Cx} {W : WX} {S : List Nat} {e : Expr} {te : TE} {fa : Ex} {js : List Nat} {ys : List Str} {ts : List Expr} {kk : Nat} {pos p : Pos}
theorem run_names (hN : X.N.Nodup) {pins : List (Addr × Obj)} : ∀ {js : List Nat} {ys : List Str} {s : Shared} {σ : St} {H : Hp} {vs : List V} {us : List Value} {Q : St → Hp → Prop}, SwOk X S js ys → Inv X pins σ H s → Vals vs us → gNames js vs σ H Q →
    wpAny (model X.prog X.w) X.A (assignInOrder (ys.map fun n => bindName X.env n) us) (fun _ s' => ∃ σ' H', Inv X pins σ' H' s' ∧ Q σ' H') X.xe s
  | [], [], s, σ, H, vs, us, Q, _, I, r, h => by
    obtain ⟨rfl, q⟩ := h
    cases r
    exact PyProof.Rows.assignInOrder_nil ⟨σ, H, I, q⟩
  | j :: js, y :: ys, s, σ, H, vs, us, Q, ok, I, r, h => by
    obtain ⟨v, vr, rfl, q⟩ := h
    obtain ⟨o1, o2, _, o4⟩ := ok
    cases r with
    | cons r rr =>
      refine PyProof.Rows.assignInOrder_cons (wpAny_bindName (store_ok I hN o1 (.inl o2) r (fun s' I' => ?_) (.inr o2)))
      exact run_names hN o4 I' rr q
  | [], _ :: _, _, _, _, _, _, _, ok, _, _, _ => ok.elim
  | _ :: _, [], _, _, _, _, _, _, ok, _, _, _ => ok.elim
theorem ps_swp (hc : X.calm = true) (hN : X.N.Nodup) (he : PE X e te) (ok : SwOk X S js ys) (hl : js.length = ys.length) (hs : swapsWithSole [.Tuple ts kk p] e pos.line X.env = pure false) (hw : swappedStores [.Tuple ts kk p] e X.env = pure (some ys.reverse)) :
    PS X (.Assign [.Tuple ts kk p] e pos) (tSwp X.K js te) := by
  refine ⟨fun pins s σ H D I h => ?_⟩
  rw [exec_Assign_arm]
  refine wpAny_bind (wpAny_standAt ?_)
  rw [hs]
  refine wpAny_bind (wpAny_pure ?_)
  rw [if_neg Bool.false_ne_true, hw]
  refine wpAny_bind (thn (he.run pins s σ H _ I h) ?_)
  rintro u s1 ⟨x, H1, I1, rx, a, vs, rfl, sq, lv, q⟩
  obtain rfl : u = Value.ref a := rx
  obtain ⟨its, rv, tup, hz⟩ := I1.tuple sq
  refine wpAny_bind (wpAny_pure ?_)
  unfold assignStores
  dsimp only
  refine wpAny_bind (wpAny_rule ?_)
  have ln : ys.reverse.length = its.toArray.size := by rw [List.length_reverse, ← hl, ← lv, rv.length, List.size_toArray]
  rw [ln]
  refine wpAny_bind (PyProof.Rows.unpackItems_tuple (I1.ok.hd hc) tup fun h' hx => ?_)
  have I2 : Inv X pins σ H1 { s1 with heap := h' } := I1.kept (t' := s1.toks) fun b o z => hx b o (Nat.ne_of_lt (Heap.lt_size z)) z
  rw [List.reverse_reverse]
  have rr : ∀ {vs : List V} {us : List Value}, Vals vs us → Vals vs.reverse us.reverse := fun {vs us} r => by
    induction r with
    | nil => exact .nil
    | cons a b ih => rw [List.reverse_cons, List.reverse_cons]; exact ih.append (.cons a .nil)
  exact wpAny_bind (thn (run_names hN ok I2 (rr (by simpa using rv)) q) fun _ s3 z => wpAny_pure z)
theorem mn_names {K : PySem.W.Frag} {mg : Str → Option Value} : ∀ {js : List Nat}, (∀ j ∈ js, j ∉ S) → MnGs K mg S (gNames js) (js.map .nm)
  | [], _ => mngs_nil
  | j :: js, h => mngs_cons (mng_name (h j List.mem_cons_self)) (mn_names fun i hi => h i (List.mem_cons_of_mem _ hi))
theorem SwOk.out : ∀ {js : List Nat} {ys : List Str}, SwOk X S js ys → ∀ j ∈ js, j ∉ S
  | [], _, _, j, h => by simp at h
  | i :: is, [], ok, _, _ => ok.elim
  | i :: is, y :: ys, ok, j, h => by
    rcases List.mem_cons.mp h with rfl | h
    · exact ok.2.2.1
    · exact SwOk.out ok.2.2.2 j h
theorem mn_swp {K : PySem.W.Frag} {mg : Str → Option Value} (hj : ∀ j ∈ js, j ∉ S) (ha : MnE K mg W te fa) : MnS K mg W S (tSwp K js te) (asgR js fa) := by
  have G := mn_names (K := K) (mg := mg) hj
  refine ha.stmt (T := fun D σ v H1 => ∃ a vs, v = .ref a ∧ SqT K H1 a vs ∧ vs.length = js.length ∧ gNames js vs.reverse σ H1 D.nx) fun σ H F L δ P r v D R rs h => ?_
  split at h
  · rename_i xs δ2 q
    obtain ⟨F2, P2, p2, R2, hz⟩ := R.freeze rs q
    cases hz with
    | tup h1 h2 =>
      rename_i a vs
      cases q2 : asgTs (js.map .nm) xs.reverse δ2 with
      | none => rw [q2] at h; exact h.elim
      | some δ3 =>
        rw [q2] at h
        have ln := G.len _ _ _ q2
        refine ⟨a, vs, rfl, same_sqT R2.sub h1, by rw [h2.len]; simpa using ln, G.run σ H F2 L δ2 P2 _ _ δ3 _ R2 h2.reverse q2 fun σ3 P3 a3 p3 R3 => h σ3 H F2 P3 a3 (p2.trans p3) R3⟩
  · exact h.elim
theorem ds_swp (js : List Nat) (ys : List Str) (hc : X.calm = true) (hN : X.N.Nodup) (ha : DE X W e te fa) (ok : SwOk X S js ys) (hl : js.length = ys.length := by rfl) (hw : swappedStores [.Tuple ts kk p] e X.env = pure (some ys.reverse) := by rfl) (hs : swapsWithSole [.Tuple ts kk p] e pos.line X.env = pure false := by rfl) :
    DS X W S (.Assign [.Tuple ts kk p] e pos) (asgR js fa) := ⟨_, ps_swp hc hN ha.pe ok hl hs hw, mn_swp ok.out ha.mn⟩
end
end Dl

/-! DlT: _law_start, the law's own def, the call that the claim makes. -/
namespace Dl
open PySem L2

/-! ### _law_start -/
def spStart (K : PySem.W.Frag) : Sp := fun vs H Q _ => ∃ a ns, vs = [.ref a] ∧ SqL K H a ((ns : List Int).map V.int) ∧
  ∀ (seed : Int) (p1 p2 : Addr), 0 ≤ seed → seed ≤ 2147483629 → H p1 = none → H p2 = none → p1 ≠ p2 → Q (.ref p2) (upd (upd H p1 (.lst (ns.map V.int))) p2 (.lst [.ref p1, .int 0, .int 0, .int seed]))
/-- its body's reading: script, seed, cell -/
def tStart (K : PySem.W.Frag) : TS :=
  tSeq (tAsg (tC (.int 7)) (gName 1)) (tSeq
    (tFor (iList K (tVar 0)) (gName 2) (tAsg (tOp (rI0 fun i j => .int (i + j)) (tOp (rI (fun _ j => 0 < j) fun i j => .int (i % j)) (tCB (fun xs H Q => (∃ i, xs = [.int i] ∧ Q (.int i) H) ∨ ∃ k, xs = [.bl k] ∧ Q (.int (if k then 1 else 0)) H) (tCons (tOp (rI0 fun i j => .int (i + j)) (tOp (rI CMul fun i j => .int (i * j)) (tVar 1) (tC (.int 48271))) (tVar 2)) tNil)) (tC (.int 2147483629))) (tC (.int 1))) (gName 1)))
    (tRet (tLst (tCons (tCB (fun xs H Q => ∃ p ys, xs = [.ref p] ∧ (SqL K H p ys ∨ SqT K H p ys) ∧ ∀ l, H l = none → Q (.ref l) (upd H l (.lst ys))) (tCons (tVar 0) tNil)) (tCons (tC (.int 0)) (tCons (tC (.int 0)) (tCons (tVar 1) tNil)))))))
theorem start_mean {K : PySem.W.Frag} {H : Hp} {vs : List V} {Q : VK} {E : XK} (h : spStart K vs H Q E) : tStart K { nx := fun _ H' => Q .non H', rt := Q } (L2.start ["script", "seed", "cell"] vs) H := by
  obtain ⟨a, ns, rfl, sq, k⟩ := h
  refine ⟨_, rfl, a, rfl, ⟨_, sq⟩, for_list (K := K) (a := a) (xs := ns.map V.int) (fun i σ H' => H' = H ∧ ∃ (seed : Int) (c : Option V), 0 ≤ seed ∧ seed ≤ 2147483629 ∧ σ = [some (.ref a), some (.int seed), c]) ⟨rfl, 7, none, by decide, by decide, rfl⟩ (fun i σ H' _ z => by obtain ⟨rfl, _⟩ := z; exact sq) ?_ ?_⟩
  · rintro i y σ H' hi ⟨rfl, seed, c, h1, h2, rfl⟩
    obtain ⟨u, rfl⟩ : ∃ u, y = V.int u := by
      rw [List.getElem?_map] at hi
      cases e : ns[i]? with
      | none => rw [e] at hi; cases hi
      | some u => rw [e] at hi; exact ⟨u, (Option.some.inj hi).symm⟩
    refine ⟨_, rfl, _, _, rfl, rfl, .inr ⟨by decide, by decide⟩, _, rfl, _, _, rfl, rfl, .inl ⟨_, rfl, _, _, rfl, rfl, by show (0 : Int) < 2147483629; decide, _, _, rfl, rfl, rfl, _, _, ?_, ?_, rfl⟩⟩
    · have := Int.emod_nonneg (seed * 48271 + u) (show (2147483629 : Int) ≠ 0 by decide)
      show 0 ≤ (seed * 48271 + u) % 2147483629 + 1
      omega
    · have := Int.emod_lt_of_pos (seed * 48271 + u) (show (0 : Int) < 2147483629 by decide)
      show (seed * 48271 + u) % 2147483629 + 1 ≤ 2147483629
      omega
  · rintro σ H' ⟨rfl, seed, c, h1, h2, rfl⟩
    refine ⟨_, rfl, a, _, rfl, .inl sq, fun l nl => ⟨_, rfl, by rw [sizeLine_eq]; exact Nat.le_of_ble_eq_true rfl, fun p np => ?_⟩⟩
    have ne : p ≠ l := fun z => by rw [z, upd_same] at np; cases np
    rw [upd_ne ne] at np
    exact k seed l p h1 h2 nl np (Ne.symm ne)

/-! ### the law's def -/
def stD (ns : List Int) (a b seed : Int) : List D := [.list (ns.map PyData.int), .int a, .int b, .int seed]
def spLaw (K : PySem.W.Frag) (n : Nat) : Sp := fun vs H Q _ => ∃ a ns, vs = [.ref a] ∧ SqL K H a ((ns : List Int).map V.int) ∧ ns.length ≤ n ∧ ∀ H', Q (.bl true) H'
/-- what is to be shown of the law in plain Lean -/
def Plain (n m : Nat) (b : Sx) : Prop := ∀ ns : List Int, ns.length ≤ n → ∀ seed : Int, 0 ≤ seed → seed ≤ 2147483629 → ∃ δ', b (none :: some (.own (stD ns 0 0 seed)) :: List.replicate m none) = .rt (.d (.bool true)) δ'
section
variable {P : Program} {w : World} {K : PySem.W.Frag} {mg : Str → Option Value} {base : Heap} {k n m : Nat} {f fS : Addr} {fd fdS : FuncData} {N : List Str} {x : Str} {st : Stmt}
theorem law_mean {X : Cx} {W : WX} {b : Sx} {st0 : Stmt} {rest : List Stmt} {vs : List V} {H : Hp} {Q : VK} {E : XK} (hK : X.K = K) (hN : N.length = m + 2) (p0 : PS X st0 (tAsg (tCallS (spStart K) (WE W) (tCons (tVar 0) tNil)) (gName 1))) (ds : DSs X W [] rest b) (pl : Plain n m b) (h : spLaw K n vs H Q E) :
    ∃ t, PSs X (st0 :: rest) t ∧ t { nx := fun _ H' => Q .non H', rt := Q } (L2.start N vs) H := by
  subst hK
  obtain ⟨a, ns, rfl, sq, ln, k⟩ := h
  obtain ⟨t, pt, mn⟩ := ds
  refine ⟨_, pss_cons p0 pt, ?_⟩
  have e0 : L2.start N [V.ref a] = some (.ref a) :: none :: List.replicate m none := by
    unfold L2.start
    rw [hN]
    rfl
  rw [e0]
  refine ⟨.ref a, rfl, a, ns, rfl, sq, fun seed p1 p2 h1 h2 n1 n2 ne => ?_⟩
  obtain ⟨δ', e⟩ := pl ns ln seed h1 h2
  let F : Hp := fun b => if b = p1 then some (.lst (ns.map V.int)) else none
  have Fp1 : F p1 = some (.lst (ns.map V.int)) := if_pos rfl
  have Fne : ∀ {b}, b ≠ p1 → F b = none := fun h => if_neg h
  show t _ (some (.ref a) :: some (.ref p2) :: List.replicate m none) _
  refine mn.run _ _ F (fun _ => False) (none :: some (.own (stD ns 0 0 seed)) :: List.replicate m none) (fun i b => i = 1 ∧ b = p2) _ ⟨fun b o q => ?_, by simp, fun i u q => ?_, fun i b q => ?_, fun i j b q1 q2 => q1.1.trans q2.1.symm, fun _ z => z.elim⟩ ?_
  · by_cases hb : b = p1
    · subst hb
      rw [Fp1] at q
      cases q
      rw [upd_ne ne, upd_same]
    · rw [Fne hb] at q; cases q
  · match i with
    | 0 => simp at q
    | 1 =>
      have e : u = .own (stD ns 0 0 seed) := by
        have : some (T.own (stD ns 0 0 seed)) = some u := q
        cases this; rfl
      subst e
      exact ⟨.ref p2, rfl, p2, _, rfl, upd_same, Fne (Ne.symm ne), fun z => z, .cons (.lst Fp1 (FzAll.of_ints ns)) (.cons (.int 0) (.cons (.int 0) (.cons (.int seed) .nil))), fun b => ⟨fun z => z.2, fun z => ⟨rfl, z⟩⟩⟩
    | i + 2 =>
      have : (List.replicate m (none : Option T)).getD i none = some u := q
      rw [List.getD_eq_getElem?_getD, List.getElem?_replicate] at this
      split at this <;> cases this
  · rw [q.1]; exact ⟨_, rfl⟩
  · rw [e]
    intro σ' v H' F' P' Pr _ _ _ o _
    have hz : Fz X.K X.mg F' v (.bool true) := o.1
    cases hz
    exact k H'
/-- the law's def keeps its promise -/
theorem law_ok {b : Sx} {st0 : Stmt} {rest : List Stmt} (F : Fun K x x st f fd) (sc : FnScope N ["script"] (defScope st)) (hb : defBody st = st0 :: rest) (hN : N.length = m + 2) (pl : Plain n m b)
    (body : ∀ (cdv : Value) (A : Around) (out : List PySem.Env) (s : Shared) (H : Hp) (E : XK), Ctx (bodyX P w K mg base N x st f cdv A out s H E) k →
      PassesOwn (model P w) (bodyX P w K mg base N x st f cdv A out s H E).A (bodyX P w K mg base N x st f cdv A out s H E).env (bodyX P w K mg base N x st f cdv A out s H E).xe →
      Takes (bodyX P w K mg base N x st f cdv A out s H E) (fun cls d _ H => E cls d H) →
      PS (bodyX P w K mg base N x st f cdv A out s H E) st0 (tAsg (tCallS (spStart K) (WE fun cls d _ H => E cls d H) (tCons (tVar 0) tNil)) (gName 1)) ∧ DSs (bodyX P w K mg base N x st f cdv A out s H E) (fun cls d _ H => E cls d H) [] rest b) :
    FnG P w K mg base (k + 1) f fd ["script"] (spLaw K n) :=
  fnG_of F sc (fun h => by obtain ⟨a, ns, rfl, _⟩ := h; rfl) fun cdv A out s H vs Q E c h => by
    obtain ⟨h1, h2⟩ := body cdv A out s H E c (passes_of rfl) (takes_of rfl rfl rfl rfl)
    rw [hb]
    exact law_mean rfl hN h1 h2 pl h
/-- state = _law_start(script) -/
theorem ps_start {X : Cx} {W : WX} {k' : Nat} {y : Str} {p p1 p2 pos p' : Pos} (g : FnG X.prog X.w X.K X.mg X.base k fS fdS ["script"] (spStart X.K)) (bi : Binds X.K fdS ["script"] []) (kp : PySem.W.keepIn X.K (.ref fS) = true) (hm : X.mg "_law_start" = some (.ref fS)) (c : Ctx X k') (hk : k ≤ k') (tk : Takes X W) (hN : X.N.Nodup)
    (h0 : X.N[0]? = some ("script" : Str)) (h1 : X.N[1]? = some y) (hx : Loc X.env.scope y) (hg : Gl X "_law_start" := by rfl) (hv : Vis X.env.scope "script" := by first | exact Or.inl rfl | exact Or.inr (Or.inl rfl)) (he : starEach [.Name "script" p1] X.env = (false, eval (.Name "script" p1) X.env) :: starEach [] X.env := by rfl)
    (hs : swapsWith (.Call (.Name "_law_start" p) [.Name "script" p1] [] p2) (some (.Name y p')) pos.line X.env = pure false := by rfl) (hf : X.fn y = true ∨ X.env.scope.names.lookup y = some .local := by first | exact .inl rfl | exact .inr rfl) :
    PS X (.Assign [.Name y p'] (.Call (.Name "_law_start" p) [.Name "script" p1] [] p2) pos) (tAsg (tCallS (spStart X.K) (WE W) (tCons (tVar 0) tNil)) (gName 1)) := by
  refine ps_set hN h1 hx ⟨fun pins s σ H Q I h => ?_⟩ hs hf
  refine wpAny_Call_Name_kw (ld_glob I hg hm (PySem.W.callWith_K (h₀ := X.base) I.ok.mod.kin kp (thn ((pa_cons (pe_var (i := 0) h0 hv (by decide) (by decide)) pa_nil he).run p2 pins s σ H _ I h) ?_) he rfl) (by decide))
  rintro us s1 ⟨vs, H1, I1, rv, q⟩
  exact ⟨I1.kIn, g.call (c.down hk) bi tk I1 rv q⟩
end

/-! ### the claim's own call -/
section
open PySem.Spec PyProof.Rows
theorem top_run {P : Program} {w : World} {K : PySem.W.Frag} {mg mb : Str → Option Value} {k n : Nat} {fa a : Addr} {fd : FuncData} {x : Str} {st : Shared} {vs : List Value} {ns : List Int}
    (kin : K.In st.heap) (nsG : st.heap.Ns mainGlobals mg) (nsB : st.heap.Ns builtinsNs mb) (boot : ∀ x : Str, x ≠ "__name__" → mb x = bootBuiltins x) (noL : st.heap.NoLimit) (noG : st.gens = #[])
    (obj : st.heap.get? a = some { cls := .type "list", data := .seq vs.toArray }) (areI : IntsAre vs ns) (len : ns.length ≤ n) (len2 : ns.length ≤ sizeLine) (room : Room k callerA)
    (F : ∀ base : Heap, K.In base → base.Ns mainGlobals mg → FnG P w K mg base k fa fd [x] (spLaw K n)) (bind : ∀ (s : Shared) (u : Value), BindsTo s fd ⟨[u], []⟩ [(x, u)]) :
    codeAny (model P w) callerA (.call (.ref fa) ⟨[.ref a], []⟩) (fun r s' => r = .ok (.ret (.bool true)) ∧ OldK st.heap s'.heap ∧ s'.os = st.os ∧ AllBare s'.gens) st := by
  have rv : Vals (ns.map V.int) vs := vals_ints areI
  -- the script is tracked, known to the object, unless it is the module's own
  let H : Hp := fun b => if b = a ∧ K.lookup a = none then some (.frz { cls := .type "list", data := .seq vs.toArray } (.lst (ns.map V.int))) else none
  have Hn : ∀ {b : Addr} {u : HO}, H b = some u → b = a ∧ K.lookup a = none ∧ u = .frz { cls := .type "list", data := .seq vs.toArray } (.lst (ns.map V.int)) := fun {b u} e => by
    by_cases c : b = a ∧ K.lookup a = none
    · have e2 : H b = _ := if_pos c
      rw [e2] at e
      exact ⟨c.1, c.2, (Option.some.inj e).symm⟩
    · have e2 : H b = none := if_neg c
      rw [e2] at e
      cases e
  have sq : SqL K H a (ns.map V.int) := by
    cases q : K.lookup a with
    | none => exact .inl (.inr ⟨_, if_pos ⟨rfl, q⟩⟩)
    | some o =>
      have z := kin a o q
      rw [obj] at z
      cases z
      exact .inr ⟨_, vs.toArray, _, q, rfl, rfl, rfl, by rw [List.size_toArray, areI.length]; exact len2, by simpa using rv⟩
  have hok : HOk P w H st.heap := fun b u e => by
    obtain ⟨rfl, _, rfl⟩ := Hn e
    exact ⟨obj, by rw [List.length_map]; exact len2, vs, _, rv, obj⟩
  have noDict : ∀ {b : Addr} {o : Obj} {es : Array DictEntry} {ep : Nat}, st.heap.get? b = some o → o.data = .dict es ep → H b = none := fun {b o es ep} e d => by
    cases q : H b with
    | none => rfl
    | some u =>
      obtain ⟨rfl, _, _⟩ := Hn q
      rw [obj] at e
      cases e
      cases d
  have nsK : ∀ {b : Addr} {m : Str → Option Value}, st.heap.Ns b m → (hidT st.heap H).Ns b m := fun {b m} ⟨o, es, ep, e, d, r⟩ => ⟨o, es, ep, hidT_get e (noDict e d), d, r⟩
  have kinB : K.In (hidT st.heap H) := fun b o e => hidT_get (kin b o e) (by
    cases q : H b with
    | none => rfl
    | some u =>
      obtain ⟨rfl, z, _⟩ := Hn q
      rw [z] at e
      cases e)
  have md : Mod K mg (hidT st.heap H) := ⟨kinB, nsK nsG, ⟨mb, nsK nsB, boot⟩, let ⟨mc, h1, h2⟩ := noL; ⟨mc, nsK h1, h2⟩⟩
  have env : Env0 P w K mg (hidT st.heap H) callerA [] st H := ⟨rfl, md, fun b o e => of_hidT e, Nat.le_of_eq (hidT_size _ _), trivial, fun b hb => absurd hb List.not_mem_nil, hok, .of_eq noG⟩
  have run := (F _ kinB (nsK nsG)).go (us := [.ref a]) (vs := [.ref a]) (Q := fun v _ => v = .bl true) (E := fun _ _ _ => False) room rfl env (bind st (.ref a)) (.cons rfl .nil) ⟨a, ns, rfl, sq, len, fun _ => rfl⟩
  refine codeAny_mono run ?_
  rintro (er | fl) s2 e2
  · obtain ⟨_, _, _, _, _, _, _, _, _, _, _, _, z⟩ := e2
    exact z.elim
  · cases fl with
    | ret u =>
      obtain ⟨v, H2, os, bare, un, hok2, rel, rfl⟩ := e2
      obtain rfl : u = Value.bool true := rel
      refine ⟨rfl, OldK.of_keep fun b o e => ?_, os, bare⟩
      cases q : H b with
      | none => exact un.keep b o e q List.not_mem_nil List.not_mem_nil
      | some u =>
        obtain ⟨rfl, _, rfl⟩ := Hn q
        obtain ⟨z, _⟩ := hok2 _ _ (un.frzs _ _ _ q)
        rw [obj] at e
        cases e
        exact z
    | _ => exact e2.elim
/-- the goal that the head leaves -/
theorem top_walk {l : PySem.W.OpenLaw} {n k : Nat} {q : Program} {loose : List Str} {XP : (Str → Option Value) → Heap → Prop} {YP : World → Heap → Prop} {d : DefRec} {K : Params → PySem.W.Frag} {x : Str} (hn : l.most = some n) (hn2 : n ≤ sizeLine) (hdf : d.params.defaults = []) (hr : Room k callerA)
    (hY : ∀ (w : World) (h : Heap), YP w h → (K w.params).In h)
    (F : ∀ (w : World) (mg : Str → Option Value) (fa : Addr) (h : Heap), (K w.params).In h → h.Ns mainGlobals mg → mg d.name = some (.ref fa) →
      ∃ fd : FuncData, (∀ (s : Shared) (u : Value), BindsTo s fd ⟨[u], []⟩ [(x, u)]) ∧ ∀ base : Heap, (K w.params).In base → base.Ns mainGlobals mg → FnG l.prog w (K w.params) mg base k fa fd [x] (spLaw (K w.params) n)) :
    PySem.W.WalkO q loose XP YP l.row.toRowW d [] (fun f vs => PySem.call f vs) := by
  refine Att.attach_call hn hdf fun w s₀ st mg mb fa o pm cd doc a vs ns G Y ho hd hcd hmg obj areI len noG => ?_
  obtain ⟨fd, hb, hF⟩ := F w mg fa _ (hY w _ Y) G.T.g hmg
  exact top_run (hY w _ Y) G.T.g G.T.b G.T.builtins G.T.nolimit noG obj areI len (Nat.le_trans len hn2) hr hF hb
end
end Dl

/-! DlU: what the top has written, bundled. -/
namespace Dl
open PySem L2
/-- the def st stands at the module's name x -/
structure FunIn (K : PySem.W.Frag) (x : Str) (st : Stmt) : Prop where
  ex : ∃ f fd, PySem.W.nsIn K mainGlobals x = some (some (.ref f)) ∧ Fun K x x st f fd
theorem funIn {K : PySem.W.Frag} {x : Str} {st : Stmt} {f : Addr} {oc kV dc pm cdv ct : Value} {od an : Option Addr} {sl : Array (Option Value)} (a : PySem.W.nsIn K mainGlobals x = some (some (.ref f)))
    (l : K.lookup f = some ⟨oc, od, .func (PySem.W.fnOf x x (defArgs st) (defBody st) (defScope st) .none kV dc pm an cdv ct), sl⟩) (c : PySem.W.codeIn K cdv x = true) (k : PySem.W.keepIn K (.ref f) = true) : FunIn K x st :=
  ⟨_, _, a, fun_mk l c k⟩
theorem FunIn.mg {K : PySem.W.Frag} {x : Str} {st : Stmt} {h : Heap} {mg : Str → Option Value} (F : FunIn K x st) (kin : K.In h) (G : h.Ns mainGlobals mg) : ∃ f fd, mg x = some (.ref f) ∧ Fun K x x st f fd := by
  obtain ⟨f, fd, a, b⟩ := F.ex
  exact ⟨f, fd, PySem.W.mg_of kin G a, b⟩
/-- what the written part says of an own error's class c (its statement st: one def, __init__) -/
structure ErrIn (P : Program) (K : PySem.W.Frag) (c qual attr : Str) (st : Stmt) (C M : Addr) : Prop where
  aC : PySem.W.nsIn K mainGlobals c = some (some (.ref C))
  aM : PySem.W.nsIn K mainGlobals "MemoryFault" = some (some (.ref M))
  o : OexC K C
  e : ExcC K C
  noA : PySem.W.findIn K (.ref C) attr = some none
  fn : ∃ f cc cda, PySem.W.findIn K (.ref C) "__init__" = some (some (.ref f)) ∧ PySem.W.typeIn K (.ref f) = some (.type "function") ∧
    (∃ oc od kV doc pm an ct osl, K.lookup f = some ⟨oc, od, .func (PySem.W.ksFn "__init__" qual (defArgs (inClass st 0)) (defBody (inClass st 0)) (defScope (inClass st 0)) .none kV doc pm an (.ref cda) ct cc), osl⟩) ∧ PySem.W.codeIn K (.ref cda) qual = true ∧
    (∃ ccl cdd vs ccs fl tf, K.lookup cda = some ⟨ccl, cdd, .fields vs, ccs⟩ ∧ vs[2]? = some (.str fl tf) ∧ ((P.main.file : Str) == fl) = true) ∧ ∃ cl cld csl, K.lookup cc = some ⟨cl, cld, .cell (some (.ref C)), csl⟩
  sub1 : PySem.W.subIn K (.ref C) (.ref C) = some true
  subV : PySem.W.subIn K (.ref C) (.type "ValueError") = some true
  sup : PySem.W.ks_superIn K C C "__init__" = some (some (.builtin "ValueError.__init__"))
  kV : PySem.W.kitOne K (.ref C) (.type "ValueError") = some true
  exm : PySem.W.exmOne K (.ref C) (.ref M) = some true
theorem errIn {P : Program} {K : PySem.W.Frag} {c qual attr : Str} {st : Stmt} {C M f cc cda N : Addr} {nm q : Str} {bs bm : List Value} {sn : List Str} {sub : List Value} {ab : Bool} {col : Option Bool} {dd : Option Addr} {m0 m1 m2 m3 m5 : Option Value}
    {oc kV doc pm ct : Value} {od an : Option Addr} {osl : Array (Option Value)} {ccl : Value} {cdd : Option Addr} {vs : Array Value} {ccs : Array (Option Value)} {fl : Str} {tf : Tok} {cl : Value} {cld : Option Addr} {csl : Array (Option Value)}
    (aC : PySem.W.nsIn K mainGlobals c = some (some (.ref C))) (aM : PySem.W.nsIn K mainGlobals "MemoryFault" = some (some (.ref M)))
    (xL : K.lookup C = some (excClassObj nm q C N bs bm true sn sub ab col dd m0 m1 m2 m3 m5 "ValueError.__new__")) (rf : PySem.HandSPX.refsVE bm = true) (sa : PySem.W.findIn K (.ref C) "__setattr__" = some (some (.builtin "object.__setattr__")))
    (hg : PySem.W.findIn K (.ref C) "__getattribute__" = some (some (.builtin "BaseException.__getattribute__"))) (hk : PySem.W.findIn K (.ref C) "__getattr__" = some none) (hs : PySem.W.subIn K (.ref C) (.type "BaseException") = some true) (hd : PySem.W.hasDictIn K C = true)
    (ha : PySem.W.findIn K (.ref C) "__class__" = some (some (.builtin "object.__class__"))) (hn : PySem.W.specialIn K (.builtin "object.__class__") "__get__" = some (some (.builtin "getset_descriptor.__get__"))) (ht : PySem.W.takesIn K (.builtin "object.__class__") = some true) (hm : PySem.W.mroIn K C (.type "object") = some true)
    (tyC : PySem.W.typeIn K (.ref C) = some (.type "type")) (kC : PySem.W.keepIn K (.ref C) = true) (noA : PySem.W.findIn K (.ref C) attr = some none) (ini : PySem.W.findIn K (.ref C) "__init__" = some (some (.ref f))) (tyf : PySem.W.typeIn K (.ref f) = some (.type "function"))
    (lf : K.lookup f = some ⟨oc, od, .func (PySem.W.ksFn "__init__" qual (defArgs (inClass st 0)) (defBody (inClass st 0)) (defScope (inClass st 0)) .none kV doc pm an (.ref cda) ct cc), osl⟩) (co : PySem.W.codeIn K (.ref cda) qual = true)
    (lc : K.lookup cda = some ⟨ccl, cdd, .fields vs, ccs⟩) (v2 : vs[2]? = some (.str fl tf)) (fe : ((P.main.file : Str) == fl) = true) (le : K.lookup cc = some ⟨cl, cld, .cell (some (.ref C)), csl⟩)
    (s1 : PySem.W.subIn K (.ref C) (.ref C) = some true) (sV : PySem.W.subIn K (.ref C) (.type "ValueError") = some true) (su : PySem.W.ks_superIn K C C "__init__" = some (some (.builtin "ValueError.__init__"))) (kv : PySem.W.kitOne K (.ref C) (.type "ValueError") = some true) (ex : PySem.W.exmOne K (.ref C) (.ref M) = some true) : ErrIn P K c qual attr st C M :=
  ⟨aC, aM, ⟨⟨nm, q, N, bs, bm, sn, sub, ab, col, dd, m0, m1, m2, m3, m5, xL, rf⟩, sa, hs, tyC, kC⟩, ⟨hg, hk, hs, hd, ha, hn, ht, hm⟩, noA, ⟨f, cc, cda, ini, tyf, ⟨oc, od, kV, doc, pm, an, ct, osl, lf⟩, co, ⟨ccl, cdd, vs, ccs, fl, tf, lc, v2, fe⟩, cl, cld, csl, le⟩, s1, sV, su, kv, ex⟩
theorem ErrIn.txt {P : Program} {K : PySem.W.Frag} {c qual attr : Str} {st : Stmt} {C M : Addr} {mg : Str → Option Value} (E : ErrIn P K c qual attr st C M) (n1 : mg "super" = none) (n2 : mg "str" = none) (top : (P.main.scope.names.lookup ("super" : Str)).isSome = false) (opq : PySem.W.nsIn K PySem.cStatics "thirdparty.any" = some none) :
    ∃ f cc cda, ErrTxt P K mg C f cc cda qual (defArgs (inClass st 0)) (defBody (inClass st 0)) (defScope (inClass st 0)) attr := by
  obtain ⟨f, cc, cda, h1, h2, h3, h4, h5, h6⟩ := E.fn
  exact ⟨f, cc, cda, E.o, h1, h2, E.noA, h3, h4, h5, h6, E.sub1, E.subV, E.sup, n1, n2, top, opq⟩
theorem ErrIn.errC {P : Program} {K : PySem.W.Frag} {c qual attr : Str} {st : Stmt} {C M : Addr} {h : Heap} {mg : Str → Option Value} (E : ErrIn P K c qual attr st C M) (kin : K.In h) (G : h.Ns mainGlobals mg) (ea : excAttr c = attr) : ErrC K mg c C :=
  ⟨PySem.W.mg_of kin G E.aC, E.e, by rw [ea]; exact E.noA⟩
theorem iniFrees {l : List (Str × NameKind)} (h : (l.all fun p => (match p.2 with | .free => false | _ => true) || decide (p.1 = "__class__")) = true) : ∀ y, l.lookup y = some .free → y = "__class__" := fun y e => by
  have m := PySem.mem_of_lookup e
  have q := List.all_eq_true.mp h _ m
  simpa using q
end Dl

/-! DlV: the mirrors' evaluation as rewriting: each combinator as a first-order step, no binder in a continuation. -/
namespace Dl
open PySem L2

/-! ### environments -/
theorem gd0 {a : Option T} {δ : Env} : List.getD (a :: δ) 0 none = a := rfl
theorem gdS {a : Option T} {δ : Env} {n : Nat} : List.getD (a :: δ) (n + 1) none = List.getD δ n none := rfl
theorem st0 {a b : Option T} {δ : Env} : List.set (a :: δ) 0 b = b :: δ := rfl
theorem stS {a b : Option T} {δ : Env} {n : Nat} : List.set (a :: δ) (n + 1) b = a :: List.set δ n b := rfl

/-! ### the binds -/
theorem bd_ok {r : Rs} {δ : Env} {k : Rs → Env → Re} : Re.bind (.ok r δ) k = k r δ := rfl
theorem bd_ex {c : Str} {a : D} {δ : Env} {k : Rs → Env → Re} : Re.bind (.ex c a δ) k = .ex c a δ := rfl
theorem bd_bad {k : Rs → Env → Re} : Re.bind .bad k = .bad := rfl
theorem bd_if {p : Prop} [Decidable p] {x y : Re} {k : Rs → Env → Re} : Re.bind (if p then x else y) k = if p then x.bind k else y.bind k := by split <;> rfl
theorem bA_ok {r : List Rs} {δ : Env} {k : List Rs → Env → Re} : ReA.bind (.ok r δ) k = k r δ := rfl
theorem bA_ex {c : Str} {a : D} {δ : Env} {k : List Rs → Env → Re} : ReA.bind (.ex c a δ) k = .ex c a δ := rfl
theorem bA_bad {k : List Rs → Env → Re} : ReA.bind .bad k = .bad := rfl
theorem bA_if {p : Prop} [Decidable p] {x y : ReA} {k : List Rs → Env → Re} : ReA.bind (if p then x else y) k = if p then x.bind k else y.bind k := by split <;> rfl
theorem ou_ok {r : Rs} {δ : Env} {k : Rs → Env → Out} : Re.out (.ok r δ) k = k r δ := rfl
theorem ou_ex {c : Str} {a : D} {δ : Env} {k : Rs → Env → Out} : Re.out (.ex c a δ) k = .ex c a δ := rfl
theorem ou_bad {k : Rs → Env → Out} : Re.out .bad k = .bad := rfl
theorem ou_if {p : Prop} [Decidable p] {x y : Re} {k : Rs → Env → Out} : Re.out (if p then x else y) k = if p then x.out k else y.out k := by split <;> rfl
theorem sq_nx {δ : Env} {g : Sx} : Out.seq (.nx δ) g = g δ := rfl
theorem sq_rt {r : T} {δ : Env} {g : Sx} : Out.seq (.rt r δ) g = .rt r δ := rfl
theorem sq_bk {δ : Env} {g : Sx} : Out.seq (.bk δ) g = .bk δ := rfl
theorem sq_ct {δ : Env} {g : Sx} : Out.seq (.ct δ) g = .ct δ := rfl
theorem sq_ex {c : Str} {a : D} {δ : Env} {g : Sx} : Out.seq (.ex c a δ) g = .ex c a δ := rfl
theorem sq_bad {g : Sx} : Out.seq .bad g = .bad := rfl
theorem sq_if {p : Prop} [Decidable p] {x y : Out} {g : Sx} : Out.seq (if p then x else y) g = if p then x.seq g else y.seq g := by split <;> rfl

/-! ### reading a result -/
theorem td_d {x : D} {δ : Env} : toD (.d x) δ = some x := rfl
def tdO : Option T → Option D
  | some t => some t.dat
  | none => none
theorem td_s {i : Nat} {δ : Env} : toD (.sl i) δ = tdO (δ.getD i none) := by
  show (δ.getD i none).map T.dat = _
  cases δ.getD i none <;> rfl
def oCons {α : Type} : Option α → Option (List α) → Option (List α)
  | some x, some xs => some (x :: xs)
  | _, _ => none
theorem tds_0 {δ : Env} : toDs [] δ = some [] := rfl
theorem tds_S {r : Rs} {rs : List Rs} {δ : Env} : toDs (r :: rs) δ = oCons (toD r δ) (toDs rs δ) := by
  show (match toD r δ, toDs rs δ with | some x, some xs => some (x :: xs) | _, _ => none) = _
  cases toD r δ <;> cases toDs rs δ <;> rfl
theorem fz_d {x : D} {δ : Env} : frz (.d x) δ = some (x, δ) := rfl
def fzO (i : Nat) (δ : Env) : Option T → Option (D × Env)
  | some (.d x) => some (x, δ.set i (some (.d x)))
  | some (.own l) => some (.list l, δ.set i (some (.d (.list l))))
  | some (.odk l) => some (kvD l, δ.set i (some (.d (kvD l))))
  | some (.odt l) => some (tvD l, δ.set i (some (.d (tvD l))))
  | _ => none
theorem fz_s {i : Nat} {δ : Env} : frz (.sl i) δ = fzO i δ (δ.getD i none) := by
  show ((δ.getD i none).bind fun t => t.frz.map fun x => (x, δ.set i (some (.d x)))) = _
  rcases δ.getD i none with _ | t
  · rfl
  · cases t <;> rfl
def fz1 (rs : List Rs) : Option (D × Env) → Option (List D × Env)
  | some (x, δ1) => (match frzs rs δ1 with
    | some (xs, δ2) => some (x :: xs, δ2)
    | none => none)
  | none => none
def fz2 (x : D) : Option (List D × Env) → Option (List D × Env)
  | some (xs, δ2) => some (x :: xs, δ2)
  | none => none
theorem fzs_0 {δ : Env} : frzs [] δ = some ([], δ) := rfl
theorem fzs_S {r : Rs} {rs : List Rs} {δ : Env} : frzs (r :: rs) δ = fz1 rs (frz r δ) := rfl
theorem fz1_s {rs : List Rs} {x : D} {δ : Env} : fz1 rs (some (x, δ)) = fz2 x (frzs rs δ) := rfl
theorem fz2_s {x : D} {xs : List D} {δ : Env} : fz2 x (some (xs, δ)) = some (x :: xs, δ) := rfl

/-! ### expressions -/
theorem e_cst {x : D} {δ : Env} : cst x δ = .ok (.d x) δ := rfl
def varO (i : Nat) (δ : Env) : Option T → Re
  | some (.d x) => .ok (.d x) δ
  | some _ => .ok (.sl i) δ
  | none => .bad
theorem e_var {i : Nat} {δ : Env} : var i δ = varO i δ (δ.getD i none) := rfl
theorem var_d {i : Nat} {δ : Env} {x : D} : varO i δ (some (.d x)) = .ok (.d x) δ := rfl
theorem var_own {i : Nat} {δ : Env} {l : List D} : varO i δ (some (.own l)) = .ok (.sl i) δ := rfl
theorem var_bor {i : Nat} {δ : Env} {l : List D} : varO i δ (some (.bor l)) = .ok (.sl i) δ := rfl
theorem var_odk {i : Nat} {δ : Env} {l : List (Key × D)} : varO i δ (some (.odk l)) = .ok (.sl i) δ := rfl
theorem var_odt {i : Nat} {δ : Env} {l : List (List Key × D)} : varO i δ (some (.odt l)) = .ok (.sl i) δ := rfl
theorem var_bdk {i : Nat} {δ : Env} {l : List (Key × D)} : varO i δ (some (.bdk l)) = .ok (.sl i) δ := rfl
theorem var_bdt {i : Nat} {δ : Env} {l : List (List Key × D)} : varO i δ (some (.bdt l)) = .ok (.sl i) δ := rfl
theorem of_s {x : D} {δ : Env} : ofO (some x) δ = .ok (.d x) δ := rfl
theorem of_n {δ : Env} : ofO none δ = .bad := rfl
theorem of_if {p : Prop} [Decidable p] {x y : Option D} {δ : Env} : ofO (if p then x else y) δ = if p then ofO x δ else ofO y δ := by split <;> rfl
def o1 (g : D → Option D) (δ : Env) : Option D → Re
  | some x => ofO (g x) δ
  | none => .bad
theorem o1_s {g : D → Option D} {δ : Env} {x : D} : o1 g δ (some x) = ofO (g x) δ := rfl
def o2 (g : D → D → Option D) (δ : Env) : Option D → Option D → Re
  | some x, some y => ofO (g x y) δ
  | _, _ => .bad
theorem o2_s {g : D → D → Option D} {δ : Env} {x y : D} : o2 g δ (some x) (some y) = ofO (g x y) δ := rfl
def oA (g : List D → Option D) (δ : Env) : Option (List D) → Re
  | some xs => ofO (g xs) δ
  | none => .bad
theorem oA_s {g : List D → Option D} {δ : Env} {xs : List D} : oA g δ (some xs) = ofO (g xs) δ := rfl
def kop1 (g : D → Option D) (r : Rs) (δ : Env) : Re := o1 g δ (toD r δ)
theorem e_op1 {g : D → Option D} {f : Ex} {δ : Env} : op1 g f δ = (f δ).bind (kop1 g) := by
  show (f δ).bind _ = _
  congr 1
def kop2b (g : D → D → Option D) (ra rb : Rs) (δ : Env) : Re := o2 g δ (toD ra δ) (toD rb δ)
def kop2 (g : D → D → Option D) (fb : Ex) (ra : Rs) (δ : Env) : Re := (fb δ).bind (kop2b g ra)
theorem e_op2 {g : D → D → Option D} {f h : Ex} {δ : Env} : op2 g f h δ = (f δ).bind (kop2 g h) := by
  show (f δ).bind _ = _
  congr 1
def evB (fs : List Ex) : Re → ReA
  | .ok r δ1 => (match evA fs δ1 with
    | .ok rs δ2 => .ok (r :: rs) δ2
    | .ex c a δ2 => .ex c a δ2
    | .bad => .bad)
  | .ex c a δ1 => .ex c a δ1
  | .bad => .bad
def evC (r : Rs) : ReA → ReA
  | .ok rs δ2 => .ok (r :: rs) δ2
  | .ex c a δ2 => .ex c a δ2
  | .bad => .bad
theorem ev_0 {δ : Env} : evA [] δ = .ok [] δ := rfl
theorem ev_S {f : Ex} {fs : List Ex} {δ : Env} : evA (f :: fs) δ = evB fs (f δ) := rfl
theorem evB_ok {fs : List Ex} {r : Rs} {δ : Env} : evB fs (.ok r δ) = evC r (evA fs δ) := rfl
theorem evB_ex {fs : List Ex} {c : Str} {a : D} {δ : Env} : evB fs (.ex c a δ) = .ex c a δ := rfl
theorem evB_bad {fs : List Ex} : evB fs .bad = .bad := rfl
theorem evB_if {fs : List Ex} {p : Prop} [Decidable p] {x y : Re} : evB fs (if p then x else y) = if p then evB fs x else evB fs y := by split <;> rfl
theorem evC_ok {r : Rs} {rs : List Rs} {δ : Env} : evC r (.ok rs δ) = .ok (r :: rs) δ := rfl
theorem evC_ex {r : Rs} {c : Str} {a : D} {δ : Env} : evC r (.ex c a δ) = .ex c a δ := rfl
theorem evC_bad {r : Rs} : evC r .bad = .bad := rfl
theorem evC_if {r : Rs} {p : Prop} [Decidable p] {x y : ReA} : evC r (if p then x else y) = if p then evC r x else evC r y := by split <;> rfl
def kopA (g : List D → Option D) (rs : List Rs) (δ : Env) : Re := oA g δ (toDs rs δ)
theorem e_opA {g : List D → Option D} {fs : List Ex} {δ : Env} : opA g fs δ = (evA fs δ).bind (kopA g) := by
  show (evA fs δ).bind _ = _
  congr 1
def oTru (δ : Env) : Option D → Re
  | some x => (match tru x with
    | some b => .ok (.d (.bool b)) δ
    | none => .bad)
  | none => .bad
def oTru2 (δ : Env) : Option Bool → Re
  | some b => .ok (.d (.bool b)) δ
  | none => .bad
theorem oTru_s {δ : Env} {x : D} : oTru δ (some x) = oTru2 δ (tru x) := rfl
theorem oTru2_s {δ : Env} {b : Bool} : oTru2 δ (some b) = .ok (.d (.bool b)) δ := rfl
def kTru (r : Rs) (δ : Env) : Re := oTru δ (toD r δ)
theorem e_tru {f : Ex} {δ : Env} : truE f δ = (f δ).bind kTru := by
  show (f δ).bind _ = _
  congr 1
def kAnd (g : Ex) (r : Rs) (δ : Env) : Re := match r with
  | .d (.bool true) => g δ
  | .d (.bool false) => .ok (.d (.bool false)) δ
  | _ => .bad
def kOr (g : Ex) (r : Rs) (δ : Env) : Re := match r with
  | .d (.bool true) => .ok (.d (.bool true)) δ
  | .d (.bool false) => g δ
  | _ => .bad
def kNot (r : Rs) (δ : Env) : Re := match r with
  | .d (.bool b) => .ok (.d (.bool (!b))) δ
  | _ => .bad
def kIfE (f g : Ex) (r : Rs) (δ : Env) : Re := match r with
  | .d (.bool true) => f δ
  | .d (.bool false) => g δ
  | _ => .bad
theorem e_and {f g : Ex} {δ : Env} : andT f g δ = (f δ).bind (kAnd g) := rfl
theorem e_or {f g : Ex} {δ : Env} : orT f g δ = (f δ).bind (kOr g) := rfl
theorem e_not {f : Ex} {δ : Env} : notT f δ = (f δ).bind kNot := rfl
theorem e_ifE {c f g : Ex} {δ : Env} : ifE c f g δ = (c δ).bind (kIfE f g) := rfl
theorem kAnd_b {g : Ex} {b : Bool} {δ : Env} : kAnd g (.d (.bool b)) δ = if b = true then g δ else .ok (.d (.bool false)) δ := by cases b <;> rfl
theorem kOr_b {g : Ex} {b : Bool} {δ : Env} : kOr g (.d (.bool b)) δ = if b = true then .ok (.d (.bool true)) δ else g δ := by cases b <;> rfl
theorem kNot_b {b : Bool} {δ : Env} : kNot (.d (.bool b)) δ = .ok (.d (.bool (!b))) δ := rfl
theorem kIfE_b {f g : Ex} {b : Bool} {δ : Env} : kIfE f g (.d (.bool b)) δ = if b = true then f δ else g δ := by cases b <;> rfl
def oAndV (g : Ex) (r : Rs) (δ : Env) : Option Bool → Re
  | some true => g δ
  | some false => .ok r δ
  | none => .bad
def oOrV (g : Ex) (r : Rs) (δ : Env) : Option Bool → Re
  | some true => .ok r δ
  | some false => g δ
  | none => .bad
def kAndV (g : Ex) (r : Rs) (δ : Env) : Re := oAndV g r δ ((toD r δ).bind tru)
def kOrV (g : Ex) (r : Rs) (δ : Env) : Re := oOrV g r δ ((toD r δ).bind tru)
theorem e_andV {f g : Ex} {δ : Env} : andV f g δ = (f δ).bind (kAndV g) := by
  show (f δ).bind _ = _
  congr 1
theorem e_orV {f g : Ex} {δ : Env} : orV f g δ = (f δ).bind (kOrV g) := by
  show (f δ).bind _ = _
  congr 1
theorem oAndV_b {g : Ex} {r : Rs} {δ : Env} {b : Bool} : oAndV g r δ (some b) = if b = true then g δ else .ok r δ := by cases b <;> rfl
theorem oOrV_b {g : Ex} {r : Rs} {δ : Env} {b : Bool} : oOrV g r δ (some b) = if b = true then .ok r δ else g δ := by cases b <;> rfl
theorem e_notV {f : Ex} : notV f = notT (truE f) := rfl
def kch1 (g : D → D → Option D) (r r2 : Rs) (δ : Env) : Re := o2 g δ (toD r δ) (toD r2 δ)
def och (l : List ((D → D → Option D) × Ex)) (r2 : Rs) (δ : Env) : Option D → Re
  | some (.bool true) => chn l r2 δ
  | some (.bool false) => .ok (.d (.bool false)) δ
  | _ => .bad
def och0 (g : D → D → Option D) (l : List ((D → D → Option D) × Ex)) (r2 : Rs) (δ : Env) : Option D → Option D → Re
  | some x, some y => och l r2 δ (g x y)
  | _, _ => .bad
def kch2 (g : D → D → Option D) (l : List ((D → D → Option D) × Ex)) (r r2 : Rs) (δ : Env) : Re := och0 g l r2 δ (toD r δ) (toD r2 δ)
theorem e_chain {f : Ex} {l : List ((D → D → Option D) × Ex)} {δ : Env} : chainE f l δ = (f δ).bind (chn l) := rfl
theorem chn_1 {g : D → D → Option D} {f : Ex} {r : Rs} {δ : Env} : chn [(g, f)] r δ = (f δ).bind (kch1 g r) := by
  rw [chn]
  congr 1
theorem chn_2 {g : D → D → Option D} {f : Ex} {p : (D → D → Option D) × Ex} {q : List ((D → D → Option D) × Ex)} {r : Rs} {δ : Env} : chn ((g, f) :: p :: q) r δ = (f δ).bind (kch2 g (p :: q) r) := by
  rw [chn]
  congr 1
theorem och0_s {g : D → D → Option D} {l : List ((D → D → Option D) × Ex)} {r2 : Rs} {δ : Env} {x y : D} : och0 g l r2 δ (some x) (some y) = och l r2 δ (g x y) := rfl
theorem och_b {l : List ((D → D → Option D) × Ex)} {r2 : Rs} {δ : Env} {b : Bool} : och l r2 δ (some (.bool b)) = if b = true then chn l r2 δ else .ok (.d (.bool false)) δ := by cases b <;> rfl
def oTup : Option (List D × Env) → Re
  | some (xs, δ2) => .ok (.d (.tuple xs)) δ2
  | none => .bad
def oLst : Option (List D × Env) → Re
  | some (xs, δ2) => .ok (.d (.list xs)) δ2
  | none => .bad
def kTup (rs : List Rs) (δ : Env) : Re := oTup (frzs rs δ)
def kLst (rs : List Rs) (δ : Env) : Re := oLst (frzs rs δ)
theorem e_tup {fs : List Ex} {δ : Env} : tupE fs δ = (evA fs δ).bind kTup := by
  show (evA fs δ).bind _ = _
  congr 1
theorem e_lst {fs : List Ex} {δ : Env} : lstE fs δ = (evA fs δ).bind kLst := by
  show (evA fs δ).bind _ = _
  congr 1
theorem oTup_s {xs : List D} {δ : Env} : oTup (some (xs, δ)) = .ok (.d (.tuple xs)) δ := rfl
theorem oLst_s {xs : List D} {δ : Env} : oLst (some (xs, δ)) = .ok (.d (.list xs)) δ := rfl

def oFz : Option (D × Env) → Re
  | some (x, δ2) => .ok (.d x) δ2
  | none => .bad
def kFz (r : Rs) (δ : Env) : Re := oFz (frz r δ)
theorem e_frz {f : Ex} {δ : Env} : frzE f δ = (f δ).bind kFz := by
  show (f δ).bind _ = _
  congr 1
theorem oFz_s {x : D} {δ : Env} : oFz (some (x, δ)) = .ok (.d x) δ := rfl

/-! ### slices -/
def pOf : Re → Option (Option Int × Env) ⊕ (Str × D × Env)
  | .ok (.d (.int i)) δ1 => .inl (some (some i, δ1))
  | .ok _ _ => .inl none
  | .ex c a δ1 => .inr (c, a, δ1)
  | .bad => .inl none
theorem pt_0 {δ : Env} : partE none δ = .inl (some (none, δ)) := rfl
theorem pt_1 {f : Ex} {δ : Env} : partE (some f) δ = pOf (f δ) := by
  rw [partE]
  rcases f δ with ⟨r, δ1⟩ | ⟨c, a, δ1⟩ | _
  · rcases r with x | i
    · cases x <;> rfl
    · rfl
  · rfl
  · rfl
theorem pOf_i {i : Int} {δ : Env} : pOf (.ok (.d (.int i)) δ) = .inl (some (some i, δ)) := rfl
def sl3 (i j : Option Int) (δ : Env) : Option D → Re
  | some x => ofO (gSl x i j) δ
  | none => .bad
def sl2 (r : Rs) (i : Option Int) : Option (Option Int × Env) ⊕ (Str × D × Env) → Re
  | .inr (c, a, δ3) => .ex c a δ3
  | .inl none => .bad
  | .inl (some (j, δ3)) => (match toD r δ3 with
      | some x => ofO (gSl x i j) δ3
      | none => .bad)
def sl1 (r : Rs) (hi : Option Ex) : Option (Option Int × Env) ⊕ (Str × D × Env) → Re
  | .inr (c, a, δ2) => .ex c a δ2
  | .inl none => .bad
  | .inl (some (i, δ2)) => sl2 r i (partE hi δ2)
def kSl (lo hi : Option Ex) (r : Rs) (δ : Env) : Re := sl1 r hi (partE lo δ)
theorem sl2_s {r : Rs} {i j : Option Int} {δ : Env} : sl2 r i (.inl (some (j, δ))) = sl3 i j δ (toD r δ) := rfl
theorem sl1_s {r : Rs} {hi : Option Ex} {i : Option Int} {δ : Env} : sl1 r hi (.inl (some (i, δ))) = sl2 r i (partE hi δ) := rfl
theorem sl3_s {i j : Option Int} {δ : Env} {x : D} : sl3 i j δ (some x) = ofO (gSl x i j) δ := rfl
theorem e_sl {f : Ex} {lo hi : Option Ex} {δ : Env} : slE f lo hi δ = (f δ).bind (kSl lo hi) := by
  show (f δ).bind _ = _
  congr 1
/-! ### calls -/
def oN : Option (T × Env) ⊕ (Str × D × Env) → Re
  | .inl (some (t, δ1)) => (match t.frz with | some x => .ok (.d x) δ1 | none => .bad)
  | .inl none => .bad
  | .inr (c, a, δ1) => .ex c a δ1
theorem e_ofN {f : Nx} {δ : Env} : ofN f δ = oN (f δ) := rfl
theorem oN_d {x : D} {δ : Env} : oN (.inl (some (.d x, δ))) = .ok (.d x) δ := rfl
theorem oN_own {l : List D} {δ : Env} : oN (.inl (some (.own l, δ))) = .ok (.d (.list l)) δ := rfl
theorem oN_odk {l : List (Key × D)} {δ : Env} : oN (.inl (some (.odk l, δ))) = .ok (.d (kvD l)) δ := rfl
theorem oN_odt {l : List (List Key × D)} {δ : Env} : oN (.inl (some (.odt l, δ))) = .ok (.d (tvD l)) δ := rfl
theorem oN_bor {l : List D} {δ : Env} : oN (.inl (some (.bor l, δ))) = .bad := rfl
theorem oN_bdk {l : List (Key × D)} {δ : Env} : oN (.inl (some (.bdk l, δ))) = .bad := rfl
theorem oN_bdt {l : List (List Key × D)} {δ : Env} : oN (.inl (some (.bdt l, δ))) = .bad := rfl
theorem oN_r {c : Str} {a : D} {δ : Env} : oN (.inr (c, a, δ)) = .ex c a δ := rfl
theorem oN_n : oN (.inl none) = .bad := rfl
theorem oN_if {p : Prop} [Decidable p] {x y : Option (T × Env) ⊕ (Str × D × Env)} : oN (if p then x else y) = if p then oN x else oN y := by split <;> rfl
def cN (S : List Nat) (m : List T → Fo) : ReA → Option (T × Env) ⊕ (Str × D × Env)
  | .ok rs δ1 => callA S m rs δ1
  | .ex c a δ1 => .inr (c, a, δ1)
  | .bad => .inl none
theorem e_call {S : List Nat} {m : List T → Fo} {fs : List Ex} {δ : Env} : callN S m fs δ = cN S m (evA fs δ) := rfl
theorem cN_ok {S : List Nat} {m : List T → Fo} {rs : List Rs} {δ : Env} : cN S m (.ok rs δ) = callA S m rs δ := rfl
theorem cN_ex {S : List Nat} {m : List T → Fo} {c : Str} {a : D} {δ : Env} : cN S m (.ex c a δ) = .inr (c, a, δ) := rfl
theorem cN_bad {S : List Nat} {m : List T → Fo} : cN S m .bad = .inl none := rfl
theorem cN_if {S : List Nat} {m : List T → Fo} {p : Prop} [Decidable p] {x y : ReA} : cN S m (if p then x else y) = if p then cN S m x else cN S m y := by split <;> rfl
def cA2 (S : List Nat) (rs : List Rs) (δ : Env) : Fo → Option (T × Env) ⊕ (Str × D × Env)
  | .ret r us => .inl (some (r, putU S rs δ us S δ))
  | .ex c a us => .inr (c, a, putU S rs δ us S δ)
  | .bad => .inl none
def cA1 (S : List Nat) (m : List T → Fo) (rs : List Rs) (δ : Env) : Bool → Option (List T) → Option (T × Env) ⊕ (Str × D × Env)
  | true, some ts => cA2 S rs δ (m ts)
  | _, _ => .inl none
theorem e_callA {S : List Nat} {m : List T → Fo} {rs : List Rs} {δ : Env} : callA S m rs δ = cA1 S m rs δ (dis δ rs) (argTs S δ 0 rs) := by
  unfold callA
  cases dis δ rs
  · cases argTs S δ 0 rs <;> rfl
  · rw [if_pos rfl]
    cases argTs S δ 0 rs <;> rfl
theorem cA1_s {S : List Nat} {m : List T → Fo} {rs : List Rs} {δ : Env} {ts : List T} : cA1 S m rs δ true (some ts) = cA2 S rs δ (m ts) := rfl
theorem cA2_r {S : List Nat} {rs : List Rs} {δ : Env} {r : T} {us : List (Option T)} : cA2 S rs δ (.ret r us) = .inl (some (r, putU S rs δ us S δ)) := rfl
theorem cA2_x {S : List Nat} {rs : List Rs} {δ : Env} {c : Str} {a : D} {us : List (Option T)} : cA2 S rs δ (.ex c a us) = .inr (c, a, putU S rs δ us S δ) := rfl
theorem cA2_b {S : List Nat} {rs : List Rs} {δ : Env} : cA2 S rs δ .bad = .inl none := rfl
theorem cA2_if {S : List Nat} {rs : List Rs} {δ : Env} {p : Prop} [Decidable p] {x y : Fo} : cA2 S rs δ (if p then x else y) = if p then cA2 S rs δ x else cA2 S rs δ y := by split <;> rfl
theorem di_0 {δ : Env} : dis δ [] = true := rfl
theorem di_d {δ : Env} {x : D} {rs : List Rs} : dis δ (.d x :: rs) = dis δ rs := rfl
def slO (i : Nat) : Option T → Option Nat
  | some (.d _) => none
  | some _ => some i
  | none => none
theorem so_d {δ : Env} {x : D} : slotOf δ (.d x) = none := rfl
theorem so_s {δ : Env} {i : Nat} : slotOf δ (.sl i) = slO i (δ.getD i none) := rfl
def di1 (rs : List Rs) (δ : Env) : Option Nat → Bool
  | none => true
  | some i => rs.all fun r' => slotOf δ r' != some i
theorem di_s {δ : Env} {i : Nat} {rs : List Rs} : dis δ (.sl i :: rs) = (di1 rs δ (slotOf δ (.sl i)) && dis δ rs) := by
  rw [dis]
  cases slotOf δ (.sl i) <;> rfl
theorem di1_0 {δ : Env} {o : Option Nat} : di1 [] δ o = true := by cases o <;> rfl
theorem di1_d {δ : Env} {o : Option Nat} {x : D} {rs : List Rs} : di1 (.d x :: rs) δ o = di1 rs δ o := by cases o <;> rfl
def arg1 (h : Bool) : Option T → Option T
  | some (.d x) => some (.d x)
  | some t => if h then (match t.lend with | some _ => some t | none => none) else (match t.lend with | some u => some u | none => some t)
  | none => none
theorem at_d {h : Bool} {δ : Env} {x : D} : argT h δ (.d x) = some (.d x) := rfl
theorem at_s {h : Bool} {δ : Env} {i : Nat} : argT h δ (.sl i) = arg1 h (δ.getD i none) := rfl
theorem arg1_o {l : List D} : arg1 true (some (.own l)) = some (.own l) := rfl
theorem arg1_l {l : List D} : arg1 false (some (.own l)) = some (.bor l) := rfl
theorem arg1_b {l : List D} : arg1 false (some (.bor l)) = some (.bor l) := rfl
theorem ats_0 {S : List Nat} {δ : Env} {i : Nat} : argTs S δ i [] = some [] := rfl
theorem ats_S {S : List Nat} {δ : Env} {i : Nat} {r : Rs} {rs : List Rs} : argTs S δ i (r :: rs) = oCons (argT (S.contains i) δ r) (argTs S δ (i + 1) rs) := by
  rw [argTs]
  cases argT (S.contains i) δ r <;> cases argTs S δ (i + 1) rs <;> rfl
theorem oC_s {α : Type} {x : α} {xs : List α} : oCons (some x) (some xs) = some (x :: xs) := rfl
def pu1 (rs : List Rs) (S0 : List Nat) (δ0 : Env) (us : List (Option T)) (j : Nat) (δ1 : Env) : Option Nat → Env
  | some i => δ1.set i (uAt S0 us j)
  | none => δ1
theorem pu_0 {S0 : List Nat} {rs : List Rs} {δ0 δ : Env} {us : List (Option T)} : putU S0 rs δ0 us [] δ = δ := rfl
theorem pu_S {S0 : List Nat} {rs : List Rs} {δ0 δ : Env} {us : List (Option T)} {j : Nat} {S : List Nat} : putU S0 rs δ0 us (j :: S) δ = pu1 rs S0 δ0 us j (putU S0 rs δ0 us S δ) ((rs[j]?).bind (slotOf δ0)) := by
  rw [putU]
  cases (rs[j]?).bind (slotOf δ0) <;> rfl
theorem pu1_s {S0 : List Nat} {rs : List Rs} {δ0 δ : Env} {us : List (Option T)} {j i : Nat} : pu1 rs S0 δ0 us j δ (some i) = δ.set i (uAt S0 us j) := rfl
theorem pu1_n {S0 : List Nat} {rs : List Rs} {δ0 δ : Env} {us : List (Option T)} {j : Nat} : pu1 rs S0 δ0 us j δ none = δ := rfl
def cV2 (fs : List Ex) (δ : Env) : Option (Nat × List Nat × (List T → Fo)) → Option (T × Env) ⊕ (Str × D × Env)
  | some (n, S, m) => if fs.length = n then callN S m fs δ else .inl none
  | none => .inl none
def cV1 (tab : Tab) (fs : List Ex) (δ : Env) : Option T → Option (T × Env) ⊕ (Str × D × Env)
  | some (.d (.dict [(.none, .str x)])) => cV2 fs δ (tab x)
  | _ => .inl none
theorem e_callV {i : Nat} {tab : Tab} {fs : List Ex} {δ : Env} : callV i tab fs δ = cV1 tab fs δ (δ.getD i none) := by
  unfold callV cV1
  split
  · rename_i e
    first
      | rfl
      | (rw [e]; rfl)
  · rename_i h
    first
      | rfl
      | (split
         · rename_i x e
           exact absurd e (h _)
         · rfl)
theorem cV1_s {tab : Tab} {fs : List Ex} {δ : Env} {x : Str} : cV1 tab fs δ (some (.d (fnD x))) = cV2 fs δ (tab x) := rfl
theorem cV2_s {fs : List Ex} {δ : Env} {n : Nat} {S : List Nat} {m : List T → Fo} : cV2 fs δ (some (n, S, m)) = if fs.length = n then callN S m fs δ else .inl none := rfl

/-! ### statements -/
theorem s_seq {f g : Sx} {δ : Env} : seqS f g δ = (f δ).seq g := rfl
theorem s_nx {δ : Env} : nxS δ = .nx δ := rfl
theorem s_bk {δ : Env} : bkS δ = .bk δ := rfl
theorem s_ct {δ : Env} : ctS δ = .ct δ := rfl
def kX (r : Rs) (δ : Env) : Out := .nx δ
theorem s_expr {f : Ex} {δ : Env} : exprS f δ = (f δ).out kX := rfl
theorem kX_e {r : Rs} {δ : Env} : kX r δ = .nx δ := rfl
def as1 (i : Nat) : Option (D × Env) → Out
  | some (x, δ2) => .nx (δ2.set i (some (.d x)))
  | none => .bad
def kAs (i : Nat) (r : Rs) (δ : Env) : Out := as1 i (frz r δ)
theorem s_asg {i : Nat} {f : Ex} {δ : Env} : asgS i f δ = (f δ).out (kAs i) := by
  show (f δ).out _ = _
  congr 1
theorem as1_s {i : Nat} {x : D} {δ : Env} : as1 i (some (x, δ)) = .nx (δ.set i (some (.d x))) := rfl
def rt1 (i : Nat) (δ1 : Env) : Option T → Out
  | some (.own l) => .rt (.own l) (δ1.set i none)
  | some (.odk l) => .rt (.odk l) (δ1.set i none)
  | some (.odt l) => .rt (.odt l) (δ1.set i none)
  | _ => .bad
def kRt (r : Rs) (δ : Env) : Out := match r with
  | .d x => .rt (.d x) δ
  | .sl i => rt1 i δ (δ.getD i none)
theorem s_ret {f : Ex} {δ : Env} : retS f δ = (f δ).out kRt := by
  show (f δ).out _ = _
  congr 1
theorem kRt_d {x : D} {δ : Env} : kRt (.d x) δ = .rt (.d x) δ := rfl
theorem kRt_s {i : Nat} {δ : Env} : kRt (.sl i) δ = rt1 i δ (δ.getD i none) := rfl
theorem rt1_o {i : Nat} {δ : Env} {l : List D} : rt1 i δ (some (.own l)) = .rt (.own l) (δ.set i none) := rfl
theorem s_retNone {δ : Env} : retNone δ = .rt (.d .none) δ := rfl
def kIf (f g : Sx) (r : Rs) (δ : Env) : Out := match r with
  | .d (.bool true) => f δ
  | .d (.bool false) => g δ
  | _ => .bad
theorem s_if {c : Ex} {f g : Sx} {δ : Env} : ifS c f g δ = (c δ).out (kIf f g) := rfl
theorem kIf_b {f g : Sx} {b : Bool} {δ : Env} : kIf f g (.d (.bool b)) δ = if b = true then f δ else g δ := by cases b <;> rfl
def aN (i : Nat) : Option (T × Env) ⊕ (Str × D × Env) → Out
  | .inl (some (t, δ1)) => .nx (δ1.set i (some t))
  | .inl none => .bad
  | .inr (c, a, δ1) => .ex c a δ1
def rN : Option (T × Env) ⊕ (Str × D × Env) → Out
  | .inl (some (t, δ1)) => .rt t δ1
  | .inl none => .bad
  | .inr (c, a, δ1) => .ex c a δ1
theorem s_asgN {i : Nat} {f : Nx} {δ : Env} : asgN i f δ = aN i (f δ) := rfl
theorem s_retN {f : Nx} {δ : Env} : retN f δ = rN (f δ) := rfl
theorem aN_s {i : Nat} {t : T} {δ : Env} : aN i (.inl (some (t, δ))) = .nx (δ.set i (some t)) := rfl
theorem aN_r {i : Nat} {c : Str} {a : D} {δ : Env} : aN i (.inr (c, a, δ)) = .ex c a δ := rfl
theorem rN_s {t : T} {δ : Env} : rN (.inl (some (t, δ))) = .rt t δ := rfl
theorem rN_r {c : Str} {a : D} {δ : Env} : rN (.inr (c, a, δ)) = .ex c a δ := rfl
theorem aN_b {i : Nat} : aN i (.inl none) = .bad := rfl
theorem rN_b : rN (.inl none) = .bad := rfl
theorem aN_if {i : Nat} {p : Prop} [Decidable p] {x y : Option (T × Env) ⊕ (Str × D × Env)} : aN i (if p then x else y) = if p then aN i x else aN i y := by split <;> rfl
theorem rN_if {p : Prop} [Decidable p] {x y : Option (T × Env) ⊕ (Str × D × Env)} : rN (if p then x else y) = if p then rN x else rN y := by split <;> rfl
def g2 : Option Env → Out
  | some δ3 => .nx δ3
  | none => .bad
def g1 (t : Tgt) : Option (D × Env) → Out
  | some (x, δ2) => g2 (asgT t x δ2)
  | none => .bad
def kG (t : Tgt) (r : Rs) (δ : Env) : Out := g1 t (frz r δ)
theorem s_asgG {t : Tgt} {f : Ex} {δ : Env} : asgG t f δ = (f δ).out (kG t) := by
  show (f δ).out _ = _
  congr 1
theorem g1_s {t : Tgt} {x : D} {δ : Env} : g1 t (some (x, δ)) = g2 (asgT t x δ) := rfl
theorem g2_s {δ : Env} : g2 (some δ) = .nx δ := rfl
theorem aT_n {i : Nat} {x : D} {δ : Env} : asgT (.nm i) x δ = some (δ.set i (some (.d x))) := rfl
theorem aT_p {l : List Tgt} {xs : List D} {δ : Env} : asgT (.tp l) (.tuple xs) δ = asgTs l xs δ := rfl
theorem aT_l {l : List Tgt} {xs : List D} {δ : Env} : asgT (.tp l) (.list xs) δ = asgTs l xs δ := rfl
def aU (ts : List Tgt) (δ : Env) : Option D → Out
  | some x => g2 (asgT (.tp ts) x δ)
  | none => .bad
def kU (ts : List Tgt) (r : Rs) (δ : Env) : Out := aU ts δ (toD r δ)
theorem s_asgU {ts : List Tgt} {f : Ex} {δ : Env} : asgU ts f δ = (f δ).out (kU ts) := by
  show (f δ).out _ = _
  congr 1
theorem aU_s {ts : List Tgt} {x : D} {δ : Env} : aU ts δ (some x) = g2 (asgT (.tp ts) x δ) := rfl
theorem aTs_0 {δ : Env} : asgTs [] [] δ = some δ := rfl
theorem aTs_n {i : Nat} {ts : List Tgt} {x : D} {xs : List D} {δ : Env} : asgTs (.nm i :: ts) (x :: xs) δ = asgTs ts xs (δ.set i (some (.d x))) := rfl
def gR (js : List Nat) : Option (D × Env) → Out
  | some (.tuple xs, δ2) => g2 (asgTs (js.map .nm) xs.reverse δ2)
  | _ => .bad
def kR (js : List Nat) (r : Rs) (δ : Env) : Out := gR js (frz r δ)
theorem s_asgR {js : List Nat} {f : Ex} {δ : Env} : asgR js f δ = (f δ).out (kR js) := by
  show (f δ).out _ = _
  congr 1
theorem gR_s {js : List Nat} {xs : List D} {δ : Env} : gR js (some (.tuple xs, δ)) = g2 (asgTs (js.map .nm) xs.reverse δ) := rfl
def rs1 (c : Str) : Option (D × Env) → Out
  | some (x, δ2) => if okD x then .ex c x δ2 else .bad
  | none => .bad
def kRs (c : Str) (r : Rs) (δ : Env) : Out := rs1 c (frz r δ)
theorem s_raise {c : Str} {f : Ex} {δ : Env} : raiseS c f δ = (f δ).out (kRs c) := by
  show (f δ).out _ = _
  congr 1
theorem rs1_s {c : Str} {x : D} {δ : Env} : rs1 c (some (x, δ)) = if okD x = true then .ex c x δ else .bad := rfl
def tr1 (cs : List Str) (i : Nat) (h : Addr → Addr → Str → Sx) : Out → Out
  | .ex c x δ1 => if c ∈ cs then (h 0 0 c (δ1.set i (some (.d (excD 0 0 c x))))).unset i else .bad
  | o => o
theorem s_try {cs : List Str} {i : Nat} {b : Sx} {h : Addr → Addr → Str → Sx} {δ : Env} : tryS cs i b h δ = tr1 cs i h (b δ) := by
  unfold tryS tr1
  cases b δ <;> rfl
theorem tr1_r {cs : List Str} {i : Nat} {h : Addr → Addr → Str → Sx} {r : T} {δ : Env} : tr1 cs i h (.rt r δ) = .rt r δ := rfl
theorem tr1_n {cs : List Str} {i : Nat} {h : Addr → Addr → Str → Sx} {δ : Env} : tr1 cs i h (.nx δ) = .nx δ := rfl
theorem tr1_x {cs : List Str} {i : Nat} {h : Addr → Addr → Str → Sx} {c : Str} {x : D} {δ : Env} : tr1 cs i h (.ex c x δ) = if c ∈ cs then (h 0 0 c (δ.set i (some (.d (excD 0 0 c x))))).unset i else .bad := rfl
theorem tr1_b {cs : List Str} {i : Nat} {h : Addr → Addr → Str → Sx} : tr1 cs i h .bad = .bad := rfl
theorem tr1_if {cs : List Str} {i : Nat} {h : Addr → Addr → Str → Sx} {p : Prop} [Decidable p] {x y : Out} : tr1 cs i h (if p then x else y) = if p then tr1 cs i h x else tr1 cs i h y := by split <;> rfl
theorem un_r {i : Nat} {r : T} {δ : Env} : Out.unset i (.rt r δ) = .rt r (δ.set i none) := rfl
theorem un_x {i : Nat} {c : Str} {a : D} {δ : Env} : Out.unset i (.ex c a δ) = .bad := rfl
theorem un_b {i : Nat} : Out.unset i .bad = .bad := rfl
theorem un_if {i : Nat} {p : Prop} [Decidable p] {x y : Out} : Out.unset i (if p then x else y) = if p then Out.unset i x else Out.unset i y := by split <;> rfl

def ix1 (cs : List Str) (a0 dd0 : Addr) (c0 cls : Str) (δ : Env) : Option T → Re
  | some (.d d) => (match unE d with
    | some (a, dd, c, _) => if a = a0 ∧ dd = dd0 ∧ c = c0 then .ok (.d (.bool (subE c0 cls))) δ else .bad
    | none => .bad)
  | _ => .bad
theorem e_isX {cs : List Str} {a dd : Addr} {c cls : Str} {i : Nat} {δ : Env} : isXE cs a dd c i cls δ = if c ∈ cs then ix1 cs a dd c cls δ (δ.getD i none) else .bad := rfl
theorem ix1_s {cs : List Str} {a dd : Addr} {c cls : Str} {x : D} {δ : Env} : ix1 cs a dd c cls δ (some (.d (excD a dd c x))) = .ok (.d (.bool (subE c cls))) δ := by
  simp only [ix1, unE_exc]
  rw [if_pos ⟨trivial, trivial, trivial⟩]
def ax1 (a0 dd0 : Addr) (c0 f : Str) (δ : Env) : Option T → Re
  | some (.d d) => (match unE d with
    | some (a, dd, c, x) => if a = a0 ∧ dd = dd0 ∧ c = c0 ∧ f = excAttr c0 then .ok (.d x) δ else .bad
    | none => .bad)
  | _ => .bad
theorem e_atX {a dd : Addr} {c f : Str} {i : Nat} {δ : Env} : atXE a dd c i f δ = ax1 a dd c f δ (δ.getD i none) := rfl
theorem ax1_s {a dd : Addr} {c f : Str} {x : D} {δ : Env} : ax1 a dd c f δ (some (.d (excD a dd c x))) = if f = excAttr c then .ok (.d x) δ else .bad := by
  simp only [ax1, unE_exc]
  by_cases h : f = excAttr c
  · rw [if_pos ⟨trivial, trivial, trivial, h⟩, if_pos h]
  · rw [if_neg (fun z => h z.2.2.2), if_neg h]
/-! ### lists in place -/
def nA2 (δ : Env) : Option (List D) → Option (T × Env) ⊕ (Str × D × Env)
  | some l => .inl (some (.own l, δ))
  | none => .inl none
def nA1 (g : List D → Option (List D)) (δ : Env) : Option (List D) → Option (T × Env) ⊕ (Str × D × Env)
  | some xs => nA2 δ (g xs)
  | none => .inl none
def nA (g : List D → Option (List D)) : ReA → Option (T × Env) ⊕ (Str × D × Env)
  | .ok rs δ1 => nA1 g δ1 (toDs rs δ1)
  | .ex c a δ1 => .inr (c, a, δ1)
  | .bad => .inl none
theorem e_newA {g : List D → Option (List D)} {fs : List Ex} {δ : Env} : newA g fs δ = nA g (evA fs δ) := by
  unfold newA nA
  rcases evA fs δ with ⟨rs, d⟩ | ⟨c, a, d⟩ | _
  · simp only []
    rcases toDs rs d with _ | xs
    · rfl
    · simp only [nA1]
      cases g xs <;> rfl
  · rfl
  · rfl
theorem nA_ok {g : List D → Option (List D)} {rs : List Rs} {δ : Env} : nA g (.ok rs δ) = nA1 g δ (toDs rs δ) := rfl
theorem nA1_s {g : List D → Option (List D)} {δ : Env} {xs : List D} : nA1 g δ (some xs) = nA2 δ (g xs) := rfl
theorem nA2_s {δ : Env} {l : List D} : nA2 δ (some l) = .inl (some (.own l, δ)) := rfl
def nL1 : Option (List D × Env) → Option (T × Env) ⊕ (Str × D × Env)
  | some (xs, δ2) => .inl (some (.own xs, δ2))
  | none => .inl none
def nL : ReA → Option (T × Env) ⊕ (Str × D × Env)
  | .ok rs δ1 => nL1 (frzs rs δ1)
  | .ex c a δ1 => .inr (c, a, δ1)
  | .bad => .inl none
theorem e_newL {fs : List Ex} {δ : Env} : newL fs δ = nL (evA fs δ) := by
  unfold newL nL
  cases evA fs δ
  · rename_i r d
    simp only [nL1] <;> rfl
  · rfl
  · rfl
theorem nL_ok {rs : List Rs} {δ : Env} : nL (.ok rs δ) = nL1 (frzs rs δ) := rfl
theorem nL_ex {c : Str} {a : D} {δ : Env} : nL (.ex c a δ) = .inr (c, a, δ) := rfl
theorem nL_b : nL .bad = .inl none := rfl
theorem nL_if {p : Prop} [Decidable p] {x y : ReA} : nL (if p then x else y) = if p then nL x else nL y := by split <;> rfl
theorem nL1_s {xs : List D} {δ : Env} : nL1 (some (xs, δ)) = .inl (some (.own xs, δ)) := rfl
def me3 (g : D → List D → Option D) (δ : Env) : Option D → Option (List D) → Re
  | some x, some xs => ofO (g x xs) δ
  | _, _ => .bad
def kMe2 (g : D → List D → Option D) (ra : Rs) (rs : List Rs) (δ : Env) : Re := me3 g δ (toD ra δ) (toDs rs δ)
def me1 (T : String) (g : D → List D → Option D) (fs : List Ex) (ra : Rs) (δ : Env) : Option D → Re
  | some y => if isTy T y = true then (evA fs δ).bind (kMe2 g ra) else .bad
  | none => .bad
def kMe (T : String) (g : D → List D → Option D) (fs : List Ex) (ra : Rs) (δ : Env) : Re := me1 T g fs ra δ (toD ra δ)
theorem e_me {T : String} {g : D → List D → Option D} {f : Ex} {fs : List Ex} {δ : Env} : meE T g f fs δ = (f δ).bind (kMe T g fs) := by
  show (f δ).bind _ = _
  congr 1
theorem me1_s {T : String} {g : D → List D → Option D} {fs : List Ex} {ra : Rs} {δ : Env} {y : D} : me1 T g fs ra δ (some y) = if isTy T y = true then (evA fs δ).bind (kMe2 g ra) else .bad := rfl
theorem me3_s {g : D → List D → Option D} {δ : Env} {x : D} {xs : List D} : me3 g δ (some x) (some xs) = ofO (g x xs) δ := rfl
def ch3 (i : Nat) (δ2 : Env) : Option (D × List D) → Re
  | some (z, l') => .ok (.d z) (δ2.set i (some (.own l')))
  | none => .bad
def ch2 (i : Nat) (g : List D → List D → Option (D × List D)) (xs : List D) (δ2 : Env) : Option T → Re
  | some (.own l) => ch3 i δ2 (g l xs)
  | _ => .bad
def ch1 (i : Nat) (g : List D → List D → Option (D × List D)) : Option (List D × Env) → Re
  | some (xs, δ2) => ch2 i g xs δ2 (δ2.getD i none)
  | none => .bad
def kCh (i : Nat) (g : List D → List D → Option (D × List D)) (rs : List Rs) (δ : Env) : Re := ch1 i g (frzs rs δ)
def ch0 (i : Nat) (g : List D → List D → Option (D × List D)) (fs : List Ex) (δ : Env) : Option T → Re
  | some (.own _) => (evA fs δ).bind (kCh i g)
  | _ => .bad
theorem e_ch {i : Nat} {g : List D → List D → Option (D × List D)} {fs : List Ex} {δ : Env} : chE i g fs δ = ch0 i g fs δ (δ.getD i none) := by
  unfold chE ch0
  rcases δ.getD i none with _ | t
  · rfl
  · cases t <;> rfl
theorem ch0_o {i : Nat} {g : List D → List D → Option (D × List D)} {fs : List Ex} {δ : Env} {l : List D} : ch0 i g fs δ (some (.own l)) = (evA fs δ).bind (kCh i g) := rfl
theorem ch1_s {i : Nat} {g : List D → List D → Option (D × List D)} {xs : List D} {δ : Env} : ch1 i g (some (xs, δ)) = ch2 i g xs δ (δ.getD i none) := rfl
theorem ch2_s {i : Nat} {g : List D → List D → Option (D × List D)} {xs l : List D} {δ : Env} : ch2 i g xs δ (some (.own l)) = ch3 i δ (g l xs) := rfl
theorem ch3_s {i : Nat} {z : D} {l : List D} {δ : Env} : ch3 i δ (some (z, l)) = .ok (.d z) (δ.set i (some (.own l))) := rfl
theorem ch3_if {i : Nat} {p : Prop} [Decidable p] {x y : Option (D × List D)} {δ : Env} : ch3 i δ (if p then x else y) = if p then ch3 i δ x else ch3 i δ y := by split <;> rfl
def si4 (i : Nat) (x : D) (l : List D) (δ3 : Env) : Option Nat → Out
  | some k => .nx (δ3.set i (some (.own (l.set k x))))
  | none => .bad
def si3 (i : Nat) (x : D) (δ3 : Env) : Rs → Option T → Out
  | .d (.int j), some (.own l) => si4 i x l δ3 (ixN l.length j)
  | _, _ => .bad
def kSi3 (i : Nat) (x : D) (rj : Rs) (δ3 : Env) : Out := si3 i x δ3 rj (δ3.getD i none)
def si2 (i : Nat) (fj : Ex) (x : D) (δ2 : Env) : Option T → Out
  | some (.own _) => (fj δ2).out (kSi3 i x)
  | _ => .bad
def si1 (i : Nat) (fj : Ex) : Option (D × Env) → Out
  | some (x, δ2) => si2 i fj x δ2 (δ2.getD i none)
  | none => .bad
def kSi (i : Nat) (fj : Ex) (r : Rs) (δ : Env) : Out := si1 i fj (frz r δ)
theorem s_setIx {i : Nat} {fe fj : Ex} {δ : Env} : setIx i fe fj δ = (fe δ).out (kSi i fj) := by
  show (fe δ).out _ = _
  congr 1
theorem si1_s {i : Nat} {fj : Ex} {x : D} {δ : Env} : si1 i fj (some (x, δ)) = si2 i fj x δ (δ.getD i none) := rfl
theorem si2_o {i : Nat} {fj : Ex} {x : D} {δ : Env} {l : List D} : si2 i fj x δ (some (.own l)) = (fj δ).out (kSi3 i x) := rfl
theorem si3_s {i : Nat} {x : D} {δ : Env} {j : Int} {l : List D} : si3 i x δ (.d (.int j)) (some (.own l)) = si4 i x l δ (ixN l.length j) := rfl
theorem si4_s {i : Nat} {x : D} {δ : Env} {k : Nat} {l : List D} : si4 i x l δ (some k) = .nx (δ.set i (some (.own (l.set k x)))) := rfl
def ag3 (i : Nat) (δ : Env) : Option D → Out
  | some z => .nx (δ.set i (some (.d z)))
  | none => .bad
def ag2 (i : Nat) (g : D → D → Option D) (a : D) (δ : Env) : Option D → Out
  | some b => ag3 i δ (g a b)
  | none => .bad
def kAg (i : Nat) (g : D → D → Option D) (a : D) (r : Rs) (δ : Env) : Out := ag2 i g a δ (toD r δ)
def ag1 (i : Nat) (g : D → D → Option D) (fe : Ex) (δ : Env) : Option T → Out
  | some (.d a) => (fe δ).out (kAg i g a)
  | _ => .bad
theorem s_aug {i : Nat} {g : D → D → Option D} {fe : Ex} {δ : Env} : augS i g fe δ = ag1 i g fe δ (δ.getD i none) := by
  unfold augS ag1
  rcases δ.getD i none with _ | t
  · rfl
  · cases t <;> rfl
theorem ag1_d {i : Nat} {g : D → D → Option D} {fe : Ex} {δ : Env} {a : D} : ag1 i g fe δ (some (.d a)) = (fe δ).out (kAg i g a) := rfl
theorem ag2_s {i : Nat} {g : D → D → Option D} {δ : Env} {a b : D} : ag2 i g a δ (some b) = ag3 i δ (g a b) := rfl
theorem ag3_s {i : Nat} {δ : Env} {z : D} : ag3 i δ (some z) = .nx (δ.set i (some (.d z))) := rfl

/-! ### loops -/
def fS (t : Tgt) (b : Sx) : Option (List D × Env) ⊕ (Str × D × Env) → Out
  | .inl (some (l, δ1)) => forL t b l δ1
  | .inl none => .bad
  | .inr (c, a, δ1) => .ex c a δ1
theorem s_for {t : Tgt} {f : Ix} {b : Sx} {δ : Env} : forS t f b δ = fS t b (f δ) := rfl
theorem fS_s {t : Tgt} {b : Sx} {l : List D} {δ : Env} : fS t b (.inl (some (l, δ))) = forL t b l δ := rfl
theorem fS_if {t : Tgt} {b : Sx} {p : Prop} [Decidable p] {x y : Option (List D × Env) ⊕ (Str × D × Env)} : fS t b (if p then x else y) = if p then fS t b x else fS t b y := by split <;> rfl
def fL2 (t : Tgt) (b : Sx) (l : List D) : Out → Out
  | .nx δ2 => forL t b l δ2
  | .ct δ2 => forL t b l δ2
  | .bk δ2 => .nx δ2
  | o => o
def fL1 (t : Tgt) (b : Sx) (l : List D) : Option Env → Out
  | some δ1 => fL2 t b l (b δ1)
  | none => .bad
theorem fL_0 {t : Tgt} {b : Sx} {δ : Env} : forL t b [] δ = .nx δ := rfl
theorem fL_S {t : Tgt} {b : Sx} {x : D} {l : List D} {δ : Env} : forL t b (x :: l) δ = fL1 t b l (asgT t x δ) := by
  rw [forL]
  rcases asgT t x δ with _ | δ1
  · rfl
  · simp only [fL1]
    cases b δ1 <;> rfl
theorem fL1_s {t : Tgt} {b : Sx} {l : List D} {δ : Env} : fL1 t b l (some δ) = fL2 t b l (b δ) := rfl
theorem fL2_n {t : Tgt} {b : Sx} {l : List D} {δ : Env} : fL2 t b l (.nx δ) = forL t b l δ := rfl
theorem fL2_c {t : Tgt} {b : Sx} {l : List D} {δ : Env} : fL2 t b l (.ct δ) = forL t b l δ := rfl
theorem fL2_b {t : Tgt} {b : Sx} {l : List D} {δ : Env} : fL2 t b l (.bk δ) = .nx δ := rfl
theorem fL2_r {t : Tgt} {b : Sx} {l : List D} {r : T} {δ : Env} : fL2 t b l (.rt r δ) = .rt r δ := rfl
theorem fL2_if {t : Tgt} {b : Sx} {l : List D} {p : Prop} [Decidable p] {x y : Out} : fL2 t b l (if p then x else y) = if p then fL2 t b l x else fL2 t b l y := by split <;> rfl
def iE2 (δ : Env) : Option T → Option (List D × Env) ⊕ (Str × D × Env)
  | some (.bor l) => .inl (some (l, δ))
  | _ => .inl none
def iE : Re → Option (List D × Env) ⊕ (Str × D × Env)
  | .ok (.d (.list l)) δ1 => .inl (some (l, δ1))
  | .ok (.d (.tuple l)) δ1 => .inl (some (l, δ1))
  | .ok (.sl i) δ1 => iE2 δ1 (δ1.getD i none)
  | .ok _ _ => .inl none
  | .ex c a δ1 => .inr (c, a, δ1)
  | .bad => .inl none
theorem e_ixE {f : Ex} {δ : Env} : ixE f δ = iE (f δ) := by
  unfold ixE iE
  rcases f δ with ⟨r, δ1⟩ | ⟨c, a, δ1⟩ | _
  · rcases r with x | i
    · cases x <;> rfl
    · simp only []
      rcases δ1.getD i none with _ | t
      · rfl
      · cases t <;> rfl
  · rfl
  · rfl
theorem iE_l {l : List D} {δ : Env} : iE (.ok (.d (.list l)) δ) = .inl (some (l, δ)) := rfl
theorem iE_t {l : List D} {δ : Env} : iE (.ok (.d (.tuple l)) δ) = .inl (some (l, δ)) := rfl
theorem iE_s {i : Nat} {δ : Env} : iE (.ok (.sl i) δ) = iE2 δ (δ.getD i none) := rfl
theorem iE2_b {l : List D} {δ : Env} : iE2 δ (some (.bor l)) = .inl (some (l, δ)) := rfl
noncomputable def iR : Re → Option (List D × Env) ⊕ (Str × D × Env)
  | .ok (.d (.int j)) δ1 => cif (-1000000000 ≤ j ∧ j ≤ 1000000000) (.inl (some (rngD 0 j.toNat, δ1))) (.inl none)
  | .ok _ _ => .inl none
  | .ex c a δ1 => .inr (c, a, δ1)
  | .bad => .inl none
theorem e_ixR1 {f : Ex} {δ : Env} : ixR1 f δ = iR (f δ) := by
  unfold ixR1 iR
  rcases f δ with ⟨r, δ1⟩ | ⟨c, a, δ1⟩ | _
  · rcases r with x | i
    · cases x <;> rfl
    · rfl
  · rfl
  · rfl
theorem iR_s {j : Int} {δ : Env} (h1 : -1000000000 ≤ j) (h2 : j ≤ 1000000000) : iR (.ok (.d (.int j)) δ) = .inl (some (rngD 0 j.toNat, δ)) := by
  exact cif_pos ⟨h1, h2⟩
noncomputable def iRR : ReA → Option (List D × Env) ⊕ (Str × D × Env)
  | .ok [.d (.int i), .d (.int j)] δ1 => cif (-1000000000 ≤ i ∧ i ≤ 1000000000 ∧ -1000000000 ≤ j ∧ j ≤ 1000000000) (.inl (some (rngD i (j - i).toNat, δ1))) (.inl none)
  | .ok _ _ => .inl none
  | .ex c a δ1 => .inr (c, a, δ1)
  | .bad => .inl none
theorem e_ixR2 {f g : Ex} {δ : Env} : ixR2 f g δ = iRR (evA [f, g] δ) := rfl
theorem iRR_s {i j : Int} {δ : Env} (h1 : -1000000000 ≤ i) (h2 : i ≤ 1000000000) (h3 : -1000000000 ≤ j) (h4 : j ≤ 1000000000) : iRR (.ok [.d (.int i), .d (.int j)] δ) = .inl (some (rngD i (j - i).toNat, δ)) := by
  exact cif_pos ⟨h1, h2, h3, h4⟩
noncomputable def wh1 (c : Ex) (b : Sx) : Out → Out
  | .nx δ2 => whlS c b δ2
  | .ct δ2 => whlS c b δ2
  | .bk δ2 => .nx δ2
  | o => o
noncomputable def kWh (c : Ex) (b : Sx) (r : Rs) (δ : Env) : Out := match r with
  | .d (.bool true) => wh1 c b (b δ)
  | .d (.bool false) => .nx δ
  | _ => .bad
/-- a while loop, one turn laid open -/
theorem s_whl {c : Ex} {b : Sx} {δ : Env} : whlS c b δ = (c δ).out (kWh c b) := by
  by_cases h : whlS c b δ = .bad
  · by_cases h2 : (c δ).out (kWh c b) = .bad
    · rw [h, h2]
    · exfalso
      have goal : ∃ n, whlN c b n δ = (c δ).out (kWh c b) := by
        rcases e : c δ with ⟨r, δ1⟩ | ⟨cc, a, δ1⟩ | _
        · rw [e] at h2
          simp only [Re.out] at h2
          rcases r with (_ | b' | _ | _ | _ | _ | _) | i <;> try exact absurd rfl h2
          cases b'
          · exact ⟨1, by rw [whlN, e]; rfl⟩
          · simp only [kWh] at h2
            rcases e2 : b δ1 with δ2 | ⟨r, δ2⟩ | δ2 | δ2 | ⟨cc, a, δ2⟩ | _
            · rw [e2] at h2
              obtain ⟨n, hn⟩ := whlS_some (c := c) (b := b) (δ := δ2) rfl h2
              refine ⟨n + 1, ?_⟩
              rw [whlN, e]
              simp only [Re.out, kWh, e2, hn, wh1]
            · exact ⟨1, by rw [whlN, e]; simp only [Re.out, kWh, e2, wh1]⟩
            · exact ⟨1, by rw [whlN, e]; simp only [Re.out, kWh, e2, wh1]⟩
            · rw [e2] at h2
              obtain ⟨n, hn⟩ := whlS_some (c := c) (b := b) (δ := δ2) rfl h2
              refine ⟨n + 1, ?_⟩
              rw [whlN, e]
              simp only [Re.out, kWh, e2, hn, wh1]
            · exact ⟨1, by rw [whlN, e]; simp only [Re.out, kWh, e2, wh1]⟩
            · rw [e2] at h2
              exact absurd rfl h2
        · exact ⟨1, by rw [whlN, e]; rfl⟩
        · rw [e] at h2
          exact absurd rfl h2
      obtain ⟨n, hn⟩ := goal
      rw [whlS_of hn h2] at h
      exact h2 h
  · obtain ⟨n, hn⟩ := whlS_some (c := c) (b := b) (δ := δ) rfl h
    cases n with
    | zero => exact absurd hn.symm h
    | succ n =>
      rw [← hn] at h ⊢
      rw [whlN] at h ⊢
      rcases e : c δ with ⟨r, δ1⟩ | ⟨cc, a, δ1⟩ | _
      · rw [e] at h
        simp only [Re.out] at h ⊢
        rcases r with (_ | b' | _ | _ | _ | _ | _) | i <;> try exact absurd rfl h
        cases b'
        · rfl
        · simp only [kWh] at h ⊢
          rcases e2 : b δ1 with δ2 | ⟨r, δ2⟩ | δ2 | δ2 | ⟨cc, a, δ2⟩ | _
          · rw [e2] at h
            exact (whlS_of rfl h).symm
          · rfl
          · rfl
          · rw [e2] at h
            exact (whlS_of rfl h).symm
          · rfl
          · rfl
      · rfl
      · rfl
theorem kWh_t {c : Ex} {b : Sx} {δ : Env} : kWh c b (.d (.bool true)) δ = wh1 c b (b δ) := rfl
theorem kWh_f {c : Ex} {b : Sx} {δ : Env} : kWh c b (.d (.bool false)) δ = .nx δ := rfl
theorem wh1_n {c : Ex} {b : Sx} {δ : Env} : wh1 c b (.nx δ) = whlS c b δ := rfl
theorem wh1_c {c : Ex} {b : Sx} {δ : Env} : wh1 c b (.ct δ) = whlS c b δ := rfl
theorem wh1_b {c : Ex} {b : Sx} {δ : Env} : wh1 c b (.bk δ) = .nx δ := rfl
theorem wh1_r {c : Ex} {b : Sx} {r : T} {δ : Env} : wh1 c b (.rt r δ) = .rt r δ := rfl

/-! ### lent lists -/
def bk1 (i : Nat) (δ : Env) : Option T → Option Env
  | some (.bor l) => some (δ.set i (some (.own l)))
  | some (.bdk l) => some (δ.set i (some (.odk l)))
  | some (.bdt l) => some (δ.set i (some (.odt l)))
  | _ => none
theorem e_backAt {i : Nat} {δ : Env} : backAt i δ = bk1 i δ (δ.getD i none) := by
  unfold backAt bk1
  rcases δ.getD i none with _ | t
  · rfl
  · cases t <;> rfl
theorem bk1_b {i : Nat} {δ : Env} {l : List D} : bk1 i δ (some (.bor l)) = some (δ.set i (some (.own l))) := rfl
def bkO (o : Out) (k : Env → Out) : Option Env → Out
  | some δ => k δ
  | none => .bad
theorem bk_n {i : Nat} {δ : Env} : Out.back i (.nx δ) = bkO .bad .nx (backAt i δ) := by
  show (match backAt i δ with | some d => Out.nx d | none => Out.bad) = _
  cases backAt i δ <;> rfl
theorem bk_b {i : Nat} {δ : Env} : Out.back i (.bk δ) = bkO .bad .bk (backAt i δ) := by
  show (match backAt i δ with | some d => Out.bk d | none => Out.bad) = _
  cases backAt i δ <;> rfl
theorem bk_c {i : Nat} {δ : Env} : Out.back i (.ct δ) = bkO .bad .ct (backAt i δ) := by
  show (match backAt i δ with | some d => Out.ct d | none => Out.bad) = _
  cases backAt i δ <;> rfl
theorem bk_r {i : Nat} {r : T} {δ : Env} : Out.back i (.rt r δ) = bkO .bad (.rt r) (backAt i δ) := by
  show (match backAt i δ with | some d => Out.rt r d | none => Out.bad) = _
  cases backAt i δ <;> rfl
theorem bkO_s {o : Out} {k : Env → Out} {δ : Env} : bkO o k (some δ) = k δ := rfl
theorem bk_if {i : Nat} {p : Prop} [Decidable p] {x y : Out} : Out.back i (if p then x else y) = if p then Out.back i x else Out.back i y := by split <;> rfl
def lkS (i : Nat) (f : Sx) (δ : Env) : Option T → Out
  | some (.own l) => (f (δ.set i (some (.bor l)))).back i
  | some (.odk l) => (f (δ.set i (some (.bdk l)))).back i
  | some (.odt l) => (f (δ.set i (some (.bdt l)))).back i
  | _ => f δ
theorem s_lock {i : Nat} {f : Sx} {δ : Env} : lockS i f δ = lkS i f δ (δ.getD i none) := by
  unfold lockS lkS
  rcases δ.getD i none with _ | t
  · rfl
  · cases t <;> rfl
theorem lkS_o {i : Nat} {f : Sx} {δ : Env} {l : List D} : lkS i f δ (some (.own l)) = (f (δ.set i (some (.bor l)))).back i := rfl
theorem lkS_d {i : Nat} {f : Sx} {δ : Env} {x : D} : lkS i f δ (some (.d x)) = f δ := rfl
theorem lkS_b {i : Nat} {f : Sx} {δ : Env} {l : List D} : lkS i f δ (some (.bor l)) = f δ := rfl
def bkN1 (t : T) : Option Env → Option (T × Env) ⊕ (Str × D × Env)
  | some δ => .inl (some (t, δ))
  | none => .inl none
def bkN (i : Nat) : Option (T × Env) ⊕ (Str × D × Env) → Option (T × Env) ⊕ (Str × D × Env)
  | .inl (some (t, δ1)) => bkN1 t (backAt i δ1)
  | .inl none => .inl none
  | .inr (c, a, δ1) => (match backAt i δ1 with | some δ2 => .inr (c, a, δ2) | none => .inl none)
theorem bkN_s {i : Nat} {t : T} {δ : Env} : bkN i (.inl (some (t, δ))) = bkN1 t (backAt i δ) := rfl
theorem bkN1_s {t : T} {δ : Env} : bkN1 t (some δ) = .inl (some (t, δ)) := rfl
def lkN (i : Nat) (f : Nx) (δ : Env) : Option T → Option (T × Env) ⊕ (Str × D × Env)
  | some (.own l) => bkN i (f (δ.set i (some (.bor l))))
  | some (.odk l) => bkN i (f (δ.set i (some (.bdk l))))
  | some (.odt l) => bkN i (f (δ.set i (some (.bdt l))))
  | _ => f δ
theorem e_lockN {i : Nat} {f : Nx} {δ : Env} : lockN i f δ = lkN i f δ (δ.getD i none) := by
  unfold lockN lkN
  rcases δ.getD i none with _ | t
  · rfl
  · cases t
    · rfl
    · show (match f _ with | .inl (some (t, δ1)) => _ | .inl none => _ | .inr (c, a, δ1) => _) = bkN i (f _)
      rcases f _ with (_ | ⟨t1, δ1⟩) | ⟨c1, x1, δ1⟩
      · rfl
      · simp only [bkN, bkN1] <;> rfl
      · rfl
    · rfl
    · show (match f _ with | .inl (some (t, δ1)) => _ | .inl none => _ | .inr (c, a, δ1) => _) = bkN i (f _)
      rcases f _ with (_ | ⟨t1, δ1⟩) | ⟨c1, x1, δ1⟩
      · rfl
      · simp only [bkN, bkN1] <;> rfl
      · rfl
    · show (match f _ with | .inl (some (t, δ1)) => _ | .inl none => _ | .inr (c, a, δ1) => _) = bkN i (f _)
      rcases f _ with (_ | ⟨t1, δ1⟩) | ⟨c1, x1, δ1⟩
      · rfl
      · simp only [bkN, bkN1] <;> rfl
      · rfl
    · rfl
    · rfl
theorem lkN_o {i : Nat} {f : Nx} {δ : Env} {l : List D} : lkN i f δ (some (.own l)) = bkN i (f (δ.set i (some (.bor l)))) := rfl
theorem lkN_d {i : Nat} {f : Nx} {δ : Env} {x : D} : lkN i f δ (some (.d x)) = f δ := rfl
theorem lkN_b {i : Nat} {f : Nx} {δ : Env} {l : List D} : lkN i f δ (some (.bor l)) = f δ := rfl
/-! ### comprehensions -/
def rst1 : Option T → Option T
  | some (.d x) => some (.d x)
  | _ => none
theorem rst1_d {x : D} : rst1 (some (.d x)) = some (.d x) := rfl
theorem rst1_n : rst1 none = none := rfl
theorem wp_0 {δ : Env} : wipeD δ [] = δ := rfl
theorem wp_S {δ : Env} {v : Nat} {vs : List Nat} : wipeD δ (v :: vs) = (wipeD δ vs).set v none := rfl
theorem rd_0 {δ0 δ : Env} : restD δ0 δ [] = δ := rfl
theorem rd_S {δ0 δ : Env} {v : Nat} {vs : List Nat} : restD δ0 δ (v :: vs) = (restD δ0 δ vs).set v (rst1 (δ0.getD v none)) := rfl
def lcR2 (vs : List Nat) (δ1 : Env) : Option (List D × Env) → Option (T × Env) ⊕ (Str × D × Env)
  | some (acc, δ2) => .inl (some (.own acc, restD δ1 δ2 vs))
  | none => .inl none
def lcR1 (vs : List Nat) (t : Tgt) (c : Option Ex) (e : Ex) : Option (List D × Env) ⊕ (Str × D × Env) → Option (T × Env) ⊕ (Str × D × Env)
  | .inl (some (l, δ1)) => lcR2 vs δ1 (lcL vs t c e l δ1 [])
  | .inl none => .inl none
  | .inr (c, a, δ1) => .inr (c, a, δ1)
theorem e_lcN {n : Nat} {vs : List Nat} {t : Tgt} {fi : Ix} {c : Option Ex} {e : Ex} {δ : Env} : lcN n vs t fi c e δ = if δ.length = n then lcR1 vs t c e (fi δ) else .inl none := by
  unfold lcN lcR lcR1
  split
  · rcases fi δ with (_ | ⟨l, δ1⟩) | ⟨c1, x1, δ1⟩ <;> rfl
  · rfl
theorem lcR1_s {vs : List Nat} {t : Tgt} {c : Option Ex} {e : Ex} {l : List D} {δ : Env} : lcR1 vs t c e (.inl (some (l, δ))) = lcR2 vs δ (lcL vs t c e l δ []) := rfl
theorem lcR2_s {vs : List Nat} {δ1 δ2 : Env} {acc : List D} : lcR2 vs δ1 (some (acc, δ2)) = .inl (some (.own acc, restD δ1 δ2 vs)) := rfl
def lc4 (vs : List Nat) (t : Tgt) (c : Option Ex) (e : Ex) (l acc : List D) : Option (D × Env) → Option (List D × Env)
  | some (y, δ4) => if acc.length < 16777216 then lcL vs t c e l δ4 (acc ++ [y]) else none
  | none => none
def lc3 (vs : List Nat) (t : Tgt) (c : Option Ex) (e : Ex) (l acc : List D) : Re → Option (List D × Env)
  | .ok r δ3 => lc4 vs t c e l acc (frz r δ3)
  | _ => none
def lc2 (vs : List Nat) (t : Tgt) (c : Option Ex) (e : Ex) (l acc : List D) : Re → Option (List D × Env)
  | .ok (.d (.bool true)) δ2 => lc3 vs t c e l acc (e δ2)
  | .ok (.d (.bool false)) δ2 => lcL vs t c e l δ2 acc
  | _ => none
def lc1 (vs : List Nat) (t : Tgt) (c : Option Ex) (e : Ex) (l acc : List D) : Option Env → Option (List D × Env)
  | some δ1 => lc2 vs t c e l acc (tstE c δ1)
  | none => none
theorem lc_0 {vs : List Nat} {t : Tgt} {c : Option Ex} {e : Ex} {acc : List D} {δ : Env} : lcL vs t c e [] δ acc = some (acc, δ) := rfl
theorem lc_S {vs : List Nat} {t : Tgt} {c : Option Ex} {e : Ex} {x : D} {l acc : List D} {δ : Env} : lcL vs t c e (x :: l) δ acc = lc1 vs t c e l acc (asgT t x (wipeD δ vs)) := by
  rw [lcL]
  unfold lc1
  rcases asgT t x (wipeD δ vs) with _ | δ1
  · rfl
  · simp only []
    unfold lc2
    rcases tstE c δ1 with ⟨r, δ2⟩ | ⟨c1, x1, δ2⟩ | _
    · rcases r with (_ | b | _ | _ | _ | _ | _) | i <;> rfl
    · rfl
    · rfl
theorem lc1_s {vs : List Nat} {t : Tgt} {c : Option Ex} {e : Ex} {l acc : List D} {δ : Env} : lc1 vs t c e l acc (some δ) = lc2 vs t c e l acc (tstE c δ) := rfl
theorem lc2_b {vs : List Nat} {t : Tgt} {c : Option Ex} {e : Ex} {l acc : List D} {δ : Env} {b : Bool} : lc2 vs t c e l acc (.ok (.d (.bool b)) δ) = if b = true then lc3 vs t c e l acc (e δ) else lcL vs t c e l δ acc := by cases b <;> rfl
theorem lc3_s {vs : List Nat} {t : Tgt} {c : Option Ex} {e : Ex} {l acc : List D} {r : Rs} {δ : Env} : lc3 vs t c e l acc (.ok r δ) = lc4 vs t c e l acc (frz r δ) := rfl
theorem lc4_s {vs : List Nat} {t : Tgt} {c : Option Ex} {e : Ex} {l acc : List D} {y : D} {δ : Env} : lc4 vs t c e l acc (some (y, δ)) = if acc.length < 16777216 then lcL vs t c e l δ (acc ++ [y]) else none := rfl
theorem ts_n {δ : Env} : tstE none δ = .ok (.d (.bool true)) δ := rfl
theorem ts_s {f : Ex} {δ : Env} : tstE (some f) δ = f δ := rfl
/-! ### defs -/
def fnE (S : List Nat) : Out → Fo
  | .nx δ => endF S δ (.ret (.d .none))
  | .rt r δ => endF S δ (.ret r)
  | .ex c a δ => endF S δ (.ex c a)
  | _ => .bad
theorem e_fn {n N : Nat} {S : List Nat} {b : Sx} {ts : List T} {δ : Env} (h : ts.length = n) (hd : ts.map some ++ List.replicate (N - n) none = δ) : fnM n N S b ts = fnE S (b δ) := by
  unfold fnM fnE
  rw [if_pos h, hd]
  first
    | done
    | (cases b δ <;> rfl)
theorem fE_n {S : List Nat} {δ : Env} : fnE S (.nx δ) = endF S δ (.ret (.d .none)) := rfl
theorem fE_r {S : List Nat} {r : T} {δ : Env} : fnE S (.rt r δ) = endF S δ (.ret r) := rfl
theorem fE_x {S : List Nat} {c : Str} {a : D} {δ : Env} : fnE S (.ex c a δ) = endF S δ (.ex c a) := rfl
theorem fE_b {S : List Nat} : fnE S .bad = .bad := rfl
theorem fE_if {S : List Nat} {p : Prop} [Decidable p] {x y : Out} : fnE S (if p then x else y) = if p then fnE S x else fnE S y := by split <;> rfl
theorem en_0 {δ : Env} {f : List (Option T) → Fo} : endF [] δ f = f [] := rfl
theorem en_1 {i : Nat} {δ : Env} {f : List (Option T) → Fo} : endF [i] δ f = if okT (δ.getD i none) = true then f [δ.getD i none] else .bad := by
  unfold endF
  simp
theorem okT_d {x : D} : okT (some (.d x)) = true := rfl
theorem okT_o {l : List D} : okT (some (.own l)) = true := rfl

/-- a value returned -/
def oRt : Option D → Fo
  | some z => .ret (.d z) []
  | none => .bad
theorem oRt_s {z : D} : oRt (some z) = .ret (.d z) [] := rfl
theorem fE_of {o : Option D} {δ : Env} : fnE [] (Re.out (ofO o δ) kRt) = oRt o := by cases o <;> rfl
/-! ### places of a list -/
theorem at_n {α : Type} {l : List α} {n : Nat} : atI l (n : Int) = l[n]? := by
  unfold L2.atI ixN
  rw [if_pos (Int.natCast_nonneg n)]
  by_cases h : n < l.length
  · rw [if_pos (by exact_mod_cast h)]
    rfl
  · rw [if_neg (by exact_mod_cast h)]
    exact (List.getElem?_eq_none (by omega)).symm
theorem at_0 {α : Type} {l : List α} : atI l 0 = l[0]? := at_n (n := 0)
theorem at_1 {α : Type} {l : List α} : atI l 1 = l[1]? := at_n (n := 1)
theorem at_2 {α : Type} {l : List α} : atI l 2 = l[2]? := at_n (n := 2)
theorem at_3 {α : Type} {l : List α} : atI l 3 = l[3]? := at_n (n := 3)
theorem at_4 {α : Type} {l : List α} : atI l 4 = l[4]? := at_n (n := 4)
theorem at_5 {α : Type} {l : List α} : atI l 5 = l[5]? := at_n (n := 5)
theorem at_6 {α : Type} {l : List α} : atI l 6 = l[6]? := at_n (n := 6)
theorem at_7 {α : Type} {l : List α} : atI l 7 = l[7]? := at_n (n := 7)
theorem at_8 {α : Type} {l : List α} : atI l 8 = l[8]? := at_n (n := 8)
theorem at_9 {α : Type} {l : List α} : atI l 9 = l[9]? := at_n (n := 9)
theorem gx_l {l : List D} {i : Int} : gIx (.list l) (.int i) = atI l i := rfl
theorem gx_t {l : List D} {i : Int} : gIx (.tuple l) (.int i) = atI l i := rfl
theorem it_l {l : List D} : isTy "list" (.list l) = true := rfl
theorem tr_l {l : List D} : tru (.list l) = some (!l.isEmpty) := rfl
theorem tr_t {l : List D} : tru (.tuple l) = some (!l.isEmpty) := rfl
theorem tr_b {b : Bool} : tru (.bool b) = some b := rfl
theorem tr_i {i : Int} : tru (.int i) = some (i != 0) := rfl
theorem tr_n : tru .none = some false := rfl
theorem gadd_i {i j : Int} : gAdd (.int i) (.int j) = some (.int (i + j)) := rfl
theorem gsub_i {i j : Int} : Dl.gSub (.int i) (.int j) = some (.int (i - j)) := rfl
theorem gneg_i {i : Int} : gNeg (.int i) = some (.int (-i)) := rfl
theorem glt_i {i j : Int} : gLt (.int i) (.int j) = some (.bool (decide (i < j))) := rfl
theorem gle_i {i j : Int} : gLe (.int i) (.int j) = some (.bool (decide (i ≤ j))) := rfl
theorem ggt_i {i j : Int} : gGt (.int i) (.int j) = some (.bool (decide (j < i))) := rfl
theorem gge_i {i j : Int} : gGe (.int i) (.int j) = some (.bool (decide (j ≤ i))) := rfl
theorem gaddI_i {i j : Int} : gAddI (.int i) (.int j) = some (.int (i + j)) := rfl
theorem geq_i {i j : Int} : gEq (.int i) (.int j) = some (.bool (decide (i = j))) := rfl
theorem gne_i {i j : Int} : gNe (.int i) (.int j) = some (.bool (!decide (i = j))) := rfl
theorem geq_s {a b : Str} : gEq (.str a) (.str b) = some (.bool (a == b)) := rfl
theorem gne_s {a b : Str} : gNe (.str a) (.str b) = some (.bool (!(a == b))) := rfl
theorem glen_l {l : List D} : gLen [.list l] = some (.int l.length) := rfl
theorem glen_t {l : List D} : gLen [.tuple l] = some (.int l.length) := rfl
theorem gint_i {i : Int} : gInt [.int i] = some (.int i) := rfl
theorem gmin2_i {i j : Int} : gMin2 [.int i, .int j] = some (.int (if j < i then j else i)) := rfl
theorem gmax2_i {i j : Int} : gMax2 [.int i, .int j] = some (.int (if j > i then j else i)) := rfl
theorem gabs_i {i : Int} : gAbs [.int i] = some (.int (if i < 0 then -i else i)) := rfl
theorem gmaxL_2 {i j : Int} : gMaxL [.list [.int i, .int j]] = some (.int (max i j)) := rfl
theorem gminL_2 {i j : Int} : gMinL [.list [.int i, .int j]] = some (.int (min i j)) := rfl
/-! ### shape -/
mutual
def lay : Nat → D → Bool
  | _, .none => true
  | _, .bool _ => true
  | _, .int _ => true
  | _, .str x => PyData.strOk x
  | 0, .list _ => false
  | n + 1, .list l => lays n l
  | 0, .tuple _ => false
  | n + 1, .tuple l => lays n l
  | _, .dict _ => false
def lays : Nat → List D → Bool
  | _, [] => true
  | n, x :: l => lay n x && lays n l
end
mutual
theorem lay_le : ∀ (d : D) (n : Nat), lay n d = true → PyData.canLay0 d = true ∧ PyData.depth d ≤ n
  | .none, n, _ => ⟨by simp only [PyData.canLay0], by simp only [PyData.depth]; omega⟩
  | .bool _, n, _ => ⟨by simp only [PyData.canLay0], by simp only [PyData.depth]; omega⟩
  | .int _, n, _ => ⟨by simp only [PyData.canLay0], by simp only [PyData.depth]; omega⟩
  | .str x, n, h => ⟨by simpa only [PyData.canLay0, lay] using h, by simp only [PyData.depth]; omega⟩
  | .list l, 0, h => by simp [lay] at h
  | .list l, n + 1, h => by
    have := lays_le l n (by simpa only [lay] using h)
    refine ⟨by simpa only [PyData.canLay0] using this.1, ?_⟩
    simp only [PyData.depth]
    omega
  | .tuple l, 0, h => by simp [lay] at h
  | .tuple l, n + 1, h => by
    have := lays_le l n (by simpa only [lay] using h)
    refine ⟨by simpa only [PyData.canLay0] using this.1, ?_⟩
    simp only [PyData.depth]
    omega
  | .dict _, n, h => by simp [lay] at h
theorem lays_le : ∀ (l : List D) (n : Nat), lays n l = true → PyData.canLayAll0 l = true ∧ PyData.depthAll l ≤ n
  | [], n, _ => ⟨by simp only [PyData.canLayAll0], by simp only [PyData.depthAll]; omega⟩
  | x :: l, n, h => by
    simp only [lays, Bool.and_eq_true] at h
    have h1 := lay_le x n h.1
    have h2 := lays_le l n h.2
    simp only [PyData.canLayAll0, PyData.depthAll, h1.1, h2.1, Bool.and_self, true_and]
    omega
end
theorem shp_lay {d : D} (h : lay 64 d = true) : shp d = true := by
  have := lay_le d 64 h
  simp only [shp, SeqAt.shaped, this.1, Bool.true_and, decide_eq_true_eq]
  exact this.2
theorem gEq_lay {x y : D} (h1 : lay 64 x = true) (h2 : lay 64 y = true) : gEq x y = some (.bool (PyData.eqv x y)) := by
  unfold gEq
  split
  · simp only [PyData.eqv]
  · rw [if_pos ⟨shp_lay h1, shp_lay h2⟩]
theorem gNe_lay {x y : D} (h1 : lay 64 x = true) (h2 : lay 64 y = true) : gNe x y = some (.bool (!PyData.eqv x y)) := by
  unfold gNe
  split
  · simp only [PyData.eqv]
  · rw [if_pos ⟨shp_lay h1, shp_lay h2⟩]
theorem gRepr_lay {x : D} (h1 : lay 64 x = true) (h2 : rok x = true) (h3 : rsz x ≤ 16777216) : gRepr [x] = some (.str x.shown) := by
  show (if _ then _ else _) = _
  rw [if_pos ⟨shp_lay h1, h2, h3⟩]
end Dl

/-! DlW: plain facts: the state of the draws, places, equality. -/
namespace Dl
open PySem L2
def St (ns : List Int) (l : List D) : Prop := ∃ a b seed : Int, l = stD ns a b seed ∧ 0 ≤ a ∧ 0 ≤ b ∧ b ≤ ns.length ∧ 0 ≤ seed
theorem fdiv_small {j : Int} (h1 : 1 ≤ j) (h2 : j < 2 ^ 64) : j.natAbs.log2 < 9000 := by
  have : j.natAbs < 2 ^ 64 := by omega
  have : j.natAbs.log2 < 64 := (Nat.log2_lt (by omega)).2 this
  omega
theorem gmod_i {i j : Int} (h : 0 < j) : gMod (.int i) (.int j) = some (.int (i % j)) := by
  show (if _ then _ else _) = _
  rw [if_pos h]
theorem gfdiv_i {i j : Int} (h1 : 1 ≤ j) (h2 : j < 2 ^ 64) : gFdiv (.int i) (.int j) = some (.int (i / j)) := by
  show (if _ then _ else _) = _
  rw [if_pos ⟨by omega, fdiv_small h1 h2⟩]
theorem gmul_r {i j : Int} (h1 : -(2 ^ 64) < j) (h2 : j < 2 ^ 64) : gMul (.int i) (.int j) = some (.int (i * j)) := by
  exact cif_pos (.inr ⟨h1, h2⟩)
theorem gmul_l {i j : Int} (h1 : -(2 ^ 64) < i) (h2 : i < 2 ^ 64) : gMul (.int i) (.int j) = some (.int (i * j)) := by
  exact cif_pos (.inl ⟨h1, h2⟩)
theorem gadd_s {x y : Str} (h : x.length + y.length ≤ 16777216) : gAdd (.str x) (.str y) = some (.str (x ++ y)) := by
  show (if _ then _ else _) = _
  rw [if_pos h]
theorem ceil_neg {l p : Int} (h : 0 < p) : -((-l) / p) = (l + p - 1) / p := by
  have h1 := Int.mul_ediv_add_emod (l + p - 1) p
  have h2 := Int.emod_nonneg (l + p - 1) (show p ≠ 0 by omega)
  have h3 := Int.emod_lt_of_pos (l + p - 1) h
  have := (Int.ediv_emod_unique (a := -l) (q := -((l + p - 1) / p)) (r := p - 1 - (l + p - 1) % p) h).2 ⟨by rw [Int.mul_neg]; omega, by omega, by omega⟩
  omega
/-- what a quotient is -/
theorem ediv_iff {a b q : Int} (h : 0 < b) : a / b = q ↔ b * q ≤ a ∧ a < b * q + b := by
  constructor
  · intro e
    have h1 := Int.mul_ediv_add_emod a b
    have h2 := Int.emod_nonneg a (show b ≠ 0 by omega)
    have h3 := Int.emod_lt_of_pos a h
    rw [e] at h1
    omega
  · intro ⟨h1, h2⟩
    exact ((Int.ediv_emod_unique (a := a) (q := q) (r := a - b * q) h).2 ⟨by omega, by omega, by omega⟩).1
theorem ix_n {n k : Nat} (h : k < n) : ixN n (k : Int) = some k := by
  unfold ixN
  rw [if_pos (Int.natCast_nonneg k), if_pos (by exact_mod_cast h)]
  rfl
theorem ix_0 {n : Nat} : ixN (n + 1) 0 = some 0 := ix_n (k := 0) (by omega)
theorem ix_1 {n : Nat} : ixN (n + 1 + 1) 1 = some 1 := ix_n (k := 1) (by omega)
theorem ix_2 {n : Nat} : ixN (n + 1 + 1 + 1) 2 = some 2 := ix_n (k := 2) (by omega)
theorem ix_3 {n : Nat} : ixN (n + 1 + 1 + 1 + 1) 3 = some 3 := ix_n (k := 3) (by omega)
mutual
theorem eqv_refl : ∀ (d : D) (n : Nat), lay n d = true → PyData.eqv d d = true
  | .none, _, _ => by simp only [PyData.eqv]
  | .bool b, _, _ => by simp [PyData.eqv]
  | .int i, _, _ => by simp [PyData.eqv]
  | .str x, _, _ => by simp [PyData.eqv]
  | .list l, 0, h => by simp [lay] at h
  | .list l, n + 1, h => by
    simp only [PyData.eqv]
    exact eqvs_refl l n (by simpa only [lay] using h)
  | .tuple l, 0, h => by simp [lay] at h
  | .tuple l, n + 1, h => by
    simp only [PyData.eqv]
    exact eqvs_refl l n (by simpa only [lay] using h)
  | .dict _, n, h => by simp [lay] at h
theorem eqvs_refl : ∀ (l : List D) (n : Nat), lays n l = true → PyData.eqvAll l l = true
  | [], _, _ => by simp only [PyData.eqvAll]
  | x :: l, n, h => by
    simp only [lays, Bool.and_eq_true] at h
    simp only [PyData.eqvAll, eqv_refl x n h.1, eqvs_refl l n h.2, Bool.and_self]
end
/-- a for loop that keeps a property -/
theorem forL_inv {t : Tgt} {b : Sx} (I : Env → Prop) : ∀ (l : List D), (∀ x ∈ l, ∀ δ, I δ → ∃ δ1, asgT t x δ = some δ1 ∧ ∃ δ2, b δ1 = .nx δ2 ∧ I δ2) → ∀ δ, I δ → ∃ δ', forL t b l δ = .nx δ' ∧ I δ'
  | [], _, δ, h => ⟨δ, rfl, h⟩
  | x :: l, st, δ, h => by
    obtain ⟨δ1, e1, δ2, e2, h2⟩ := st x (List.mem_cons_self ..) δ h
    obtain ⟨δ', e3, h3⟩ := forL_inv I l (fun y hy => st y (List.mem_cons_of_mem _ hy)) δ2 h2
    exact ⟨δ', by rw [fL_S, e1, fL1_s, e2, fL2_n, e3], h3⟩
theorem rngD_mem {lo : Int} {n : Nat} {x : D} (h : x ∈ rngD lo n) : ∃ i : Int, x = .int i ∧ lo ≤ i ∧ i < lo + n := by
  unfold rngD at h
  rw [List.mem_map] at h
  obtain ⟨j, hj, rfl⟩ := h
  rw [List.mem_range] at hj
  exact ⟨lo + j, rfl, by omega, by omega⟩
end Dl

/-! DlM: xs[::-1], the bits, defs that call themselves. -/
namespace Dl
open PySem PySem.Spec PyProof.Rows L2 HT

/-! ### t[::-1] -/
section
variable {prog : Program} {w : World} {A : Around} {E : Value → Shared → Prop} {s : Shared}
theorem sliceApplied_rev {sl : Addr} {vl vu vs : Value} {n : Nat} {Q : Int × Int × Nat → Shared → Prop} (hs : s.heap.IsSliceOf sl vl vu vs) (pl : IsPart vl none) (pu : IsPart vu none) (ps : IsPart vs (some (-1)))
    (h : Q (((n : Nat) : Int) - 1, -1, n) s) : wpAny (model prog w) A (Builtin.Slice.sliceApplied (.ref sl) (pure (n : Int))) Q E s := by
  obtain ⟨os, hos, hcs, hds⟩ := id hs
  unfold Builtin.Slice.sliceApplied Builtin.Slice.sliceFields
  refine wpAny_bind (wpAny_bind (wpAny_field hos hds (x := vl) rfl (wpAny_bind (wpAny_field hos hds (x := vu) rfl (wpAny_bind (wpAny_field hos hds (x := vs) rfl (wpAny_pure ?_)))))))
  refine wpAny_bind (slicePart_ ps ?_)
  show wpAny _ _ (if ((-1 : Int) == 0) = true then _ else _) _ _ s
  rw [if_neg (by decide)]
  refine wpAny_bind (slicePart_ pl (wpAny_bind (slicePart_ pu (wpAny_bind (wpAny_pure ?_)))))
  show wpAny _ _ (pure ((n : Int) - 1, (-1 : Int), Builtin.Slice.slicePlaces ((n : Int) - 1) (-1) (-1))) _ _ s
  have e : Builtin.Slice.slicePlaces ((n : Int) - 1) (-1) (-1) = n := by
    unfold Builtin.Slice.slicePlaces
    have h1 : ¬ ((-1 : Int) > 0) := by omega
    have h2 : (-(-1 : Int)) = 1 := rfl
    simp only [h1, if_false, h2, Int.ediv_one]
    split <;> omega
  rw [e]
  exact wpAny_pure h
theorem pick_rev (xs : Array Value) : ((List.range xs.size).filterMap fun (k : Nat) => xs[(((xs.size : Nat) : Int) - 1 + (k : Int) * -1).toNat]?).toArray = xs.toList.reverse.toArray := by
  congr 1
  have h : ∀ k : Nat, ((((xs.size : Nat) : Int) - 1 + (k : Int) * -1).toNat) = xs.size - 1 - k := fun k => by omega
  simp only [h]
  have q : ∀ (l : List Value) (f : Nat → Option Value) (n : Nat), l.length = n → (∀ i, i < n → f i = l[i]?) → (List.range n).filterMap f = l := by
    intro l f n hn hf
    subst hn
    have g : ∀ m : List Nat, (∀ i ∈ m, i < l.length) → m.filterMap f = m.filterMap fun i => l[i]? := by
      intro m hm
      induction m with
      | nil => rfl
      | cons a m ih =>
        rw [List.filterMap_cons, List.filterMap_cons, hf a (hm a (by simp)), ih fun i hi => hm i (by simp [hi])]
    have : (List.range l.length).filterMap f = (List.range l.length).filterMap fun i => l[i]? := g _ fun i hi => List.mem_range.mp hi
    rw [this]
    have p := pick_run l.toArray 0 l.length
    simp only [Nat.zero_add, List.map_id'] at p
    simpa using p
  refine q _ _ _ (by simp) fun i hi => ?_
  rw [List.getElem?_reverse (by simpa using hi)]
  simp
theorem getItem_tuple_rev {t sl : Addr} {items : Array Value} {vl vu vs : Value} {Q : Value → Shared → Prop} (ht : IsTup s.heap t items) (hs : s.heap.IsSliceOf sl vl vu vs) (pl : IsPart vl none) (pu : IsPart vu none) (ps : IsPart vs (some (-1)))
    (h : Q (.ref s.heap.objs.size) { s with heap := s.heap.push { cls := .type "tuple", data := .seq items.toList.reverse.toArray } })
    (hsz : items.size ≤ sizeLine) : wpAny (model prog w) A (getItem (.ref t) (.ref sl)) Q E s := by
  have htake : sizeOk (.seq items.toList.reverse.toArray) := by
    show items.toList.reverse.toArray.size ≤ sizeLine
    rw [List.size_toArray, List.length_reverse, Array.length_toList]
    exact hsz
  obtain ⟨os, hos, hcs, hds⟩ := id hs
  have hTs : s.TypeIs (.ref sl) "slice" := ⟨os, hos, hcs⟩
  unfold getItem
  try with_reducible refine wpAny_holding ?_
  first | refine wpAny_bind (wpAny_pure ?_) | skip
  refine wpAny_bind (wpAny_sequenceKey ht.typeIs (by decide) ?_)
  refine wpAny_bind (wpAny_callSpecial?_slot (name := Str.ofString "__getitem__") ht.typeIs PyProof.Rows.slot_tuple_getitem
    (wpAny_call_entry PyProof.Rows.slot_tuple_getitem ht.typeIs entry_tuple_getitem ?_ (args_tuple_getitem _ _)))
  show wpAny _ _ (Builtin.Tuple.tupleItemsOf (.ref t) >>= _) _ _ s
  refine wpAny_bind (tupleItemsOf_ ht ?_)
  refine wpAny_bind (wpAny_typeOf hTs ?_)
  rw [if_pos (by decide)]
  refine wpAny_bind (sliceApplied_rev hs pl pu ps ?_)
  have hno : ¬ (((((items.size : Nat) : Int) - 1) == 0 && (-1 : Int) == 1 && items.size == items.size) = true) := by
    intro q
    rw [Bool.and_eq_true, Bool.and_eq_true] at q
    exact absurd q.1.2 (by decide)
  show wpAny _ _ (if ((((items.size : Nat) : Int) - 1) == 0 && (-1 : Int) == 1 && items.size == items.size) = true then _ else _) _ _ s
  rw [if_neg hno, pick_rev]
  first
    | exact wpAny_bind (m := Builtin.Tuple.tupleExact _) (wpAny_newObj_type (wpAny_pure ⟨_, rfl, wpAny_pure h⟩) htake)
    | exact wpAny_bind (m := Builtin.Tuple.tupleExact _) (wpAny_newObj_type (wpAny_bind (wpAny_pure (wpAny_pure ⟨_, rfl, wpAny_pure h⟩))) htake)
    | exact wpAny_bind (wpAny_bind (m := Builtin.Tuple.tupleExact _) (wpAny_newObj_type (wpAny_pure (wpAny_pure ⟨_, rfl, wpAny_pure h⟩)) htake))
    | exact wpAny_bind (wpAny_bind (m := Builtin.Tuple.tupleExact _) (wpAny_newObj_type (wpAny_pure ⟨_, rfl, wpAny_pure h⟩) htake))
end
def rRevA (K : PySem.W.Frag) : V → Hp → VK → Prop := fun x H Q => ∃ a xs, x = .ref a ∧ ((SqL K H a xs ∧ ∀ p, H p = none → Q (.ref p) (upd H p (.lst xs.reverse))) ∨ (SqT K H a xs ∧ ∀ p, H p = none → Q (.ref p) (upd H p (.tup xs.reverse))))
section
variable {X : Cx}
theorem pe_revA {e : Expr} {te : TE} {k : Nat} {p1 p2 p3 pos : Pos} (he : PE X e te) : PE X (.Subscript e (.Slice none none (some (.UnaryOp .USub (.Constant (.int 1) k p1) p2)) p3) pos) (tUn (rRevA X.K) te) := by
  refine ⟨fun pins s σ H Q I h => ?_⟩
  refine Subscript_ (thn (he.run pins s σ H _ I h) fun v s1 ⟨x, H1, I1, r1, q1⟩ => ?_)
  obtain ⟨a, xs, ex, hx⟩ := q1
  subst ex
  cases r1
  have hst : PO X (some (.UnaryOp .USub (.Constant (.int 1) k p1) p2)) (tPart (tUn (rU fun i => .int (-i)) (tC (.int 1)))) := po_some (pe_un un_neg pe_int)
  refine wpAny_Slice (thn (po_none.run pins s1 σ H1 (fun o H2 => o = none ∧ H2 = H1) I1 ⟨rfl, rfl⟩) fun vl s2 ⟨l, H2, I2, pl, el, e2⟩ => ?_)
  subst el e2
  refine thn (po_none.run pins s2 σ H2 (fun o H3 => o = none ∧ H3 = H2) I2 ⟨rfl, rfl⟩) fun vu s3 ⟨u, H3, I3, pu, eu, e3⟩ => ?_
  subst eu e3
  refine thn (hst.run pins s3 σ H3 (fun o H4 => o = some (-1) ∧ H4 = H3) I3 ⟨1, rfl, -1, rfl, rfl, rfl⟩) fun vs s4 ⟨o, H4, I4, ps, eo, e4⟩ => ?_
  subst eo e4
  have I5 : Inv X pins σ H4 { s4 with heap := s4.heap.push { cls := .type "slice", data := .fields #[vl, vu, vs] } } := I4.kept (t' := s4.toks) fun b ob q => Heap.get?_push_of_some _ q
  show wpAny (model X.prog X.w) X.A (subscriptTail e (.Slice none none (some (.UnaryOp .USub (.Constant (.int 1) k p1) p2)) p3) (.ref a) (.ref s4.heap.objs.size)) (EP X pins σ Q) X.xe { s4 with heap := s4.heap.push { cls := .type "slice", data := .fields #[vl, vu, vs] } }
  rcases hx with ⟨hx, q⟩ | ⟨hx, q⟩
  · obtain ⟨its, r, ht, hz⟩ := I5.list hx
    have hlen := r.length
    refine tail_any (ops := [.ref a, .ref s4.heap.objs.size]) ht.isList.typeIs (PySem.slot_list_getitem.lookup) ?_ (by with_unfolding_all rfl)
    refine wpAny_getItem_list_slice ht.isList (Heap.IsSliceOf.new _ vl vu vs) pl pu ps (by decide) ?_ (by rw [List.size_toArray]; omega)
    rw [PySem.W.krv_pick]
    refine ⟨.ref _, _, I5.laid (t' := s4.toks) (o := .lst xs.reverse) (fun b ob q => Heap.get?_push_of_some _ q) (Nat.le_refl _) ?_, rfl, q _ (I5.hok.fresh (Nat.le_refl _))⟩
    exact ⟨by rw [List.length_reverse]; exact hz, _, 0, r.reverse, Heap.get?_push_size _ rfl⟩
  · obtain ⟨its, r, ht, hz⟩ := I5.tuple hx
    have hlen := r.length
    refine tail_any (ops := [.ref a, .ref s4.heap.objs.size]) ht.typeIs (PyProof.Rows.slot_tuple_getitem.lookup) ?_ (by with_unfolding_all rfl)
    refine getItem_tuple_rev ht (Heap.IsSliceOf.new _ vl vu vs) pl pu ps ?_ (by rw [List.size_toArray]; omega)
    refine ⟨.ref _, _, I5.laid (t' := s4.toks) (o := .tup xs.reverse) (fun b ob q => Heap.get?_push_of_some _ q) (Nat.le_refl _) ?_, rfl, q _ (I5.hok.fresh (Nat.le_refl _))⟩
    exact ⟨by rw [List.length_reverse]; exact hz, _, r.reverse, IsTup.new _ _⟩
end
def gRev : D → Option D
  | .list l => some (.list l.reverse)
  | .tuple l => some (.tuple l.reverse)
  | _ => none
section
variable {K : PySem.W.Frag} {mg : Str → Option Value} {X : Cx} {W : WX}
theorem o1_rev : Op1 K mg (rRevA K) gRev := by
  intro F H v x z Q sub hx e k
  cases x with
  | list l =>
    cases e
    obtain ⟨a, vs, rfl, h1, h2⟩ := hx
    refine ⟨a, vs, rfl, .inl ⟨.inl (.inl h1), fun p np => ?_⟩⟩
    have := fzNewL (p := p) sub np h2.reverse
    exact k _ _ _ this.1 this.2
  | tuple l =>
    cases e
    obtain ⟨a, vs, rfl, h1, h2⟩ := hx
    refine ⟨a, vs, rfl, .inr ⟨same_sqT sub h1, fun p np => ?_⟩⟩
    have := fzNewT (p := p) sub np h2.reverse
    exact k _ _ _ this.1 this.2
  | _ => cases e
theorem de_rev {a : Expr} {ta : TE} {fa : Ex} {k : Nat} {p1 p2 p3 pos : Pos} (ha : DE X W a ta fa) : DE X W (.Subscript a (.Slice none none (some (.UnaryOp .USub (.Constant (.int 1) k p1) p2)) p3) pos) (tUn (rRevA X.K) ta) (op1 gRev fa) := ⟨pe_revA ha.pe, mn_op1 o1_rev ha.mn⟩
/-! ### bits -/
def gBand : D → D → Option D
  | .int i, .int j => some (.int (Builtin.bitAnd i j))
  | _, _ => none
def gBor : D → D → Option D
  | .int i, .int j => some (.int (Builtin.bitOr i j))
  | _, _ => none
def gBxor : D → D → Option D
  | .int i, .int j => some (.int (Builtin.bitXor i j))
  | _, _ => none
theorem o2_band : Op2 K mg (rI0 fun i j => .int (Builtin.bitAnd i j)) gBand := o2_int0 fun x y z e => by
  cases x <;> cases y <;> first | cases e; exact ⟨_, _, rfl, rfl, rfl⟩ | cases e
theorem o2_bor : Op2 K mg (rI0 fun i j => .int (Builtin.bitOr i j)) gBor := o2_int0 fun x y z e => by
  cases x <;> cases y <;> first | cases e; exact ⟨_, _, rfl, rfl, rfl⟩ | cases e
theorem o2_bxor : Op2 K mg (rI0 fun i j => .int (Builtin.bitXor i j)) gBxor := o2_int0 fun x y z e => by
  cases x <;> cases y <;> first | cases e; exact ⟨_, _, rfl, rfl, rfl⟩ | cases e
variable {a b : Expr} {ta tb : TE} {fa fb : Ex} {pos : Pos}
theorem de_band (ha : DE X W a ta fa) (hb : DE X W b tb fb) : DE X W (.BinOp a .BitAnd b pos) (tOp (rI0 fun i j => .int (Builtin.bitAnd i j)) ta tb) (op2 gBand fa fb) := de_op2 op_and o2_band ha hb
theorem de_bor (ha : DE X W a ta fa) (hb : DE X W b tb fb) : DE X W (.BinOp a .BitOr b pos) (tOp (rI0 fun i j => .int (Builtin.bitOr i j)) ta tb) (op2 gBor fa fb) := de_op2 op_or o2_bor ha hb
theorem de_bxor (ha : DE X W a ta fa) (hb : DE X W b tb fb) : DE X W (.BinOp a .BitXor b pos) (tOp (rI0 fun i j => .int (Builtin.bitXor i j)) ta tb) (op2 gBxor fa fb) := de_op2 op_xor o2_bxor ha hb
end
/-- where nothing is raised -/
theorem takes0 {X : Cx} : Takes X Wn := fun _ _ ⟨_, _, _, _, _, _, _, _, _, _, _, _, _, _, _, _, w⟩ => w.elim
/-! ### defs that call themselves: at no depth nothing is told -/
def bot : List T → Fo := fun _ => .bad
theorem fnD_bot {P : Program} {w : World} {K : PySem.W.Frag} {mg : Str → Option Value} {base : Heap} {k n : Nat} {f : Addr} {fd : FuncData} {ps : List Str} {x qual : Str} {st : Stmt} {S : List Nat} (F : Fun K x qual st f fd) (hm : mg x = some (.ref f)) (bi : Binds K fd ps []) (hn : ps.length = n) : FnD P w K mg base x k n S bot :=
  ⟨f, fd, ps, hm, F.kp, hn, bi, fun h => h.1.trans hn.symm, fun _ _ _ _ _ prom => by
    obtain ⟨_, F, ts, P, _, h⟩ := prom
    exact h.elim⟩
/-- m a one deeper than what it calls -/
def recM (g : (List T → Fo) → List T → Fo) : Nat → List T → Fo
  | 0 => bot
  | n + 1 => g (recM g n)
end Dl

/-! DlN: enumerate, range of three, ranges as lists and tuples. -/
namespace Dl
open PySem PySem.Spec PyProof.Rows L2

/-! ### enumerate(tuple) -/
def IteT (K : PySem.W.Frag) (a : Addr) : It :=
  ⟨fun i H => ∃ (xs : List V) (x : V), SqT K H a xs ∧ xs[i]? = some x, fun i H v H' => ∃ T x, v = .ref T ∧ H T = none ∧ H' = upd H T (.tup [.int (i : Nat), x]) ∧ ∀ xs, SqT K H a xs → xs[i]? = some x, fun i H => ∃ xs : List V, SqT K H a xs ∧ xs.length ≤ i⟩
theorem turn_enumT {P : Program} {w : World} {K : PySem.W.Frag} {elts : List Expr} {kk : Nat} {tpos : Pos} (a e it : Addr) (hai : a ≠ it) (hea : e ≠ a) :
    Turn P w K (.Tuple elts kk tpos) (IteT K a) [e, it] e (fun i h => (∃ old, IsEnum h e it ((i : Nat) : Int) old) ∧ h.IsTupleIter it a i ∧ e ≠ it) where
  mem := by simp
  obj := fun i h st b hb => by
    obtain ⟨⟨old, he⟩, ⟨o, ho, hc, hd⟩, _⟩ := st
    have e' : b = e ∨ b = it := by simpa using hb
    rcases e' with z | z
    · rw [z]; exact ⟨_, he, fun v q => nomatch q⟩
    · rw [z]; exact ⟨o, ho, fun v q => by rw [hd] at q; cases q⟩
  keep := fun i h h' st k => let ⟨⟨old, he⟩, hi, hne⟩ := st; ⟨⟨old, k e (by simp) _ he⟩, hi.at fun o q => k it (by simp) o q, hne⟩
  item := by
    intro X hP hw hK hc i pins s σ H E I hf st hg
    subst hP hw hK
    obtain ⟨⟨old, he⟩, hit, hne⟩ := st
    obtain ⟨xs, x, hq, hx⟩ := hg
    obtain ⟨its, rv, p, hz⟩ := I.tuple hq
    obtain ⟨u, hu, ru⟩ := rv.get hx
    have hel : e < s.heap.objs.size := Heap.lt_size he
    have hil : it < s.heap.objs.size := by obtain ⟨_, q, _⟩ := hit; exact Heap.lt_size q
    have hlt : i < its.toArray.size := by
      have := (List.getElem?_eq_some_iff.mp hu).1
      rwa [List.size_toArray]
    refine wpAny_pyNext_enum_itemD (n := its.toArray.size) (fp := [it, a]) (Draws.tuple (A := X.A.in1) (show X.A.in1.handled = none from I.ok.hd hc) it a hai its.toArray) he ⟨hit, p⟩ hlt hne (by simp; exact ⟨hne, hea⟩) fun y h' tk hy ho hst' hT hsz hk => ?_
    obtain ⟨hit', _⟩ := hst'
    have hyu : y = u := by
      have : its.toArray[i]? = some u := by simpa using hu
      rw [this] at hy
      exact (Option.some.inj hy).symm
    subst hyu
    refine ⟨_, rfl, wpAny_letOwnedTupleGo_enum (s := { s with heap := h', toks := tk + 1 }) ho fun h'' he' sb => ?_⟩
    have hT2 : h''.get? s.heap.objs.size = some { cls := .type "tuple", data := .seq #[.int i tk, y] } := (sb.2 _ (Nat.ne_of_gt hel)).trans hT
    have new : ObjOk X.prog X.w (upd H s.heap.objs.size (.tup [.int (i : Nat), x])) h'' s.heap.objs.size (.tup [.int (i : Nat), x]) :=
      ⟨by show 2 ≤ sizeLine; decide, [.int i tk, y], .cons ⟨_, rfl⟩ (.cons ru .nil), ⟨_, hT2, rfl, _, rfl⟩⟩
    have I1 : Inv X pins σ (upd H s.heap.objs.size (.tup [.int (i : Nat), x])) { s with heap := h'', toks := tk + 1 } :=
      I.turnedNew (ch := [e, it]) (fun b ob hb q => (sb.2 b (fun z => hb (by simp [z]))).trans (hk b ob (fun z => hb (by simp [z])) (fun z => hb (by simp [z])) q)) hf (Nat.le_refl _) new
    refine ⟨.ref s.heap.objs.size, _, I1, rfl, ⟨_, x, rfl, I.hok.fresh (Nat.le_refl _), rfl, fun ys hy => by rw [I.tuple_inj hy hq]; exact hx⟩, ⟨⟨y, ?_⟩, hit'.at fun o q => (sb.2 it (Ne.symm hne)).trans q, hne⟩, fun b hb => ?_⟩
    · have e1 : ((i + 1 : Nat) : Int) = (i : Int) + 1 := by omega
      rw [e1]; exact he'
    · have hb' : b < s.heap.objs.size := by
        have e' : b = e ∨ b = it := by simpa using hb
        rcases e' with z | z
        · rw [z]; exact hel
        · rw [z]; exact hil
      rw [upd_ne (Nat.ne_of_lt hb')]
      exact (hf b hb).1
  done := by
    intro X hP hw hK hc i pins s σ H E I hf st hg
    subst hP hw hK
    obtain ⟨⟨old, he⟩, hit, hne⟩ := st
    obtain ⟨xs, hq, hx⟩ := hg
    obtain ⟨its, rv, p, hz⟩ := I.tuple hq
    obtain ⟨f0, f1, f2, f3, f4, f5⟩ := hf it (by simp)
    have hl := rv.length
    have hT : s.TypeIs (.ref e) "enumerate" := ⟨_, he, rfl⟩
    unfold pyNext
    refine wpAny_bind (wpAny_attempt (wpAny_callSpecial?_slot (name := Str.ofString "__next__") hT F.slot_enumerate_next
      (wpAny_call_entry F.slot_enumerate_next hT F.entry_enumerate_next ?_ (F.args_enumerate_next_1 _))))
    show wpAny _ _ (field (.ref e) 2 >>= _) _ _ _
    refine wpAny_bind (wpAny_field he rfl (x := .ref it) rfl ?_)
    refine wpAny_bind (wpAny_nextOf_tuple_end (I.ok.hd hc) hit p (by simp; omega) fun h' x he' hx' => ?_)
    obtain ⟨o, ho, hc⟩ := hx'
    refine wpAny_bind (wpAny_isInstance (T := "StopIteration") (b := true) ⟨o, ho, hc⟩ isSubtype_stop ?_)
    exact wpAny_pure ⟨rfl, I.turned (t' := s.toks) (fun b o hb q => he' b o hb q) f0 f1 f3 f4 f5⟩
  self := fun A i s Q E st h => let ⟨⟨_, he⟩, _⟩ := st; wpAny_pyIter_enum he h
set_option maxHeartbeats 4000000 in
theorem meets_enumerate_newT (t : Addr) (items : Array Value) :
    Meets (Builtin.«enumerate.__new__» ⟨[.type "enumerate", .ref t], []⟩) (fun _ R s => s.heap.IsTuple t items ∧
      R (.ok (.ret (.ref (s.heap.push { cls := .type "tuple_iterator", data := .fields #[.ref t, .int 0 0] }).objs.size)))
        { s with heap := (s.heap.push { cls := .type "tuple_iterator", data := .fields #[.ref t, .int 0 0] }).push { cls := .type "enumerate", data := .fields #[.none, .bool false, .ref s.heap.objs.size, rawInt 0, .none, .none] } }) :=
  .of_wp fun prog w A R s h => by
    obtain ⟨hp, g, d, tk, os⟩ := s; obtain ⟨h1, h⟩ := h
    have hsub := sub_enumerate
    have q1 : ∀ {A' : Around} {E : Value → Shared → Prop} {Q : Value → Shared → Prop}, Q (.ref hp.objs.size) ⟨hp.push { cls := .type "tuple_iterator", data := .fields #[.ref t, .int 0 0] }, g, d, tk, os⟩ → wpAny (model prog w) A' (pyIter (.ref t)) Q E ⟨hp, g, d, tk, os⟩ :=
      fun q => wpAny_pyIter_tuple (show (Shared.heap ⟨hp, g, d, tk, os⟩).IsTuple t items from h1) q
    obtain ⟨o, ho, hcl, n, hdt⟩ := id h1
    wp_walk using q1
    refine wpAny_stack_any fun st => wpAny_pure ?_
    split
    · rename_i c _ _ _ _ _
      cases (c == Value.type "enumerate")
      · wp_walk using q1
        exact ⟨_, rfl, h⟩
      · wp_walk using q1
        exact ⟨_, rfl, h⟩
    · wp_walk using q1
      exact ⟨_, rfl, h⟩
section
variable {prog : Program} {w : World} {A : Around} {E : Value → Shared → Prop} {s : Shared}
theorem call_enumerate_tuple {t : Addr} {items : Array Value} {Q : Value → Shared → Prop} (hT : s.heap.IsTuple t items)
    (h : ∀ h', IsEnum h' (s.heap.objs.size + 1) s.heap.objs.size 0 .none → h'.IsTupleIter s.heap.objs.size t 0 → h'.objs.size = s.heap.objs.size + 2 →
      (∀ b o, s.heap.get? b = some o → h'.get? b = some o) → Q (.ref (s.heap.objs.size + 1)) { s with heap := h' }) :
    wpAny (model prog w) A (call (.type "enumerate") [.ref t]) Q E s := by
  refine callType_new F.called_enumerate (by decide) (F.typeCall_enumerate_1 _) (F.newCall_enumerate_1 _) (fun obj => F.args_object_init_2 obj _) F.entry_enumerate_new
    (meets_enumerate_newT t items) ⟨hT, ?_⟩
  have hz : (s.heap.push { cls := .type "tuple_iterator", data := .fields #[.ref t, .int 0 0] }).objs.size = s.heap.objs.size + 1 := Heap.size_push ..
  show _ ∧ _
  rw [hz]
  have he : IsEnum ((s.heap.push { cls := .type "tuple_iterator", data := .fields #[.ref t, .int 0 0] }).push
      { cls := .type "enumerate", data := .fields #[.none, .bool false, .ref s.heap.objs.size, rawInt 0, .none, .none] }) (s.heap.objs.size + 1) s.heap.objs.size 0 .none := by
    have := Heap.get?_push_size (s.heap.push { cls := .type "tuple_iterator", data := .fields #[.ref t, .int 0 0] })
      (o := { cls := .type "enumerate", data := .fields #[.none, .bool false, .ref s.heap.objs.size, rawInt 0, .none, .none] }) rfl
    rw [hz] at this; exact this
  refine ⟨⟨_, he, rfl⟩, h _ he ⟨_, Heap.get?_push_of_some _ (Heap.get?_push_size _ rfl), rfl, rfl⟩ (by rw [Heap.size_push, hz]) fun b o x => Heap.get?_push_of_some _ (Heap.get?_push_of_some _ x)⟩
end
/-! ### enumerate(list or tuple) -/
def iEnumA (K : PySem.W.Frag) (tl : TE) : TI := fun σ H R => tl σ H fun x H1 => ∃ a, x = .ref a ∧ (((∃ xs, SqL K H1 a xs) ∧ R (Ite K a) H1) ∨ ((∃ xs, SqT K H1 a xs) ∧ R (IteT K a) H1))
theorem pi_enumA {X : Cx} {e : Expr} {te : TE} {p pos tpos : Pos} {elts : List Expr} {kk : Nat} (ha : PE X e te) (hm : X.mg "enumerate" = none) (hg : Gl X "enumerate" := by rfl) (hs : starEach [e] X.env = (false, eval e X.env) :: starEach [] X.env := by rfl) :
    PI X (.Tuple elts kk tpos) (.Call (.Name "enumerate" p) [e] [] pos) (iEnumA X.K te) := by
  refine ⟨fun pins s σ H R I h => ?_⟩
  refine Call_ (ld_blt I hg hm boot_enumerate (PyProof.Rows.callWith_type1 (args_cons (thn (ha.run pins s σ H _ I h) fun u s1 ⟨x, H1, I1, r1, a, ex, q⟩ => args_nil ?_) hs) hs))
  subst ex
  cases r1
  have fresh2 : ∀ b, b ∈ [s1.heap.objs.size + 1, s1.heap.objs.size] → FpOk X pins H1 b := fun b hb => by
    have e' : b = s1.heap.objs.size + 1 ∨ b = s1.heap.objs.size := by simpa using hb
    have hle : s1.heap.objs.size ≤ b := by
      rcases e' with z | z
      · rw [z]; exact Nat.le_add_right _ _
      · rw [z]; exact Nat.le_refl _
    exact I1.fpOk hle (I1.hok.fresh hle)
  rcases q with ⟨⟨xs, hq⟩, q⟩ | ⟨⟨xs, hq⟩, q⟩
  · obtain ⟨its, rv, p', hz⟩ := I1.list hq
    refine call_enumerate_list p'.isList fun h' he hit hsz hk => wpAny_pyIter_enum he ?_
    have I2 : Inv X pins σ H1 { s1 with heap := h' } := I1.kept (t' := s1.toks) hk
    exact ⟨s1.heap.objs.size + 1, [s1.heap.objs.size + 1, s1.heap.objs.size], _, _, H1, rfl, I2, turn_enum a (s1.heap.objs.size + 1) s1.heap.objs.size, ⟨⟨.none, he⟩, hit, Nat.succ_ne_self _⟩, fresh2, q⟩
  · obtain ⟨its, rv, p', hz⟩ := I1.tuple hq
    have hlt : a < s1.heap.objs.size := by obtain ⟨o, ho, _⟩ := p'; exact Heap.lt_size ho
    refine call_enumerate_tuple (items := its.toArray) p' fun h' he hit hsz hk => wpAny_pyIter_enum he ?_
    have I2 : Inv X pins σ H1 { s1 with heap := h' } := I1.kept (t' := s1.toks) hk
    exact ⟨s1.heap.objs.size + 1, [s1.heap.objs.size + 1, s1.heap.objs.size], _, _, H1, rfl, I2, turn_enumT a (s1.heap.objs.size + 1) s1.heap.objs.size (Nat.ne_of_lt hlt) (Nat.ne_of_gt (Nat.lt_succ_of_lt hlt)), ⟨⟨.none, he⟩, hit, Nat.succ_ne_self _⟩, fresh2, q⟩
end Dl

/-! DlO: what enumerate, range of three give as data; ranges as lists, tuples. -/
namespace Dl
open PySem L2

def enD (l : List D) : List D := (List.range l.length).zipWith (fun (i : Nat) x => .tuple [.int (i : Int), x]) l
theorem enD_get {l : List D} {i : Nat} {d : D} (e : (enD l)[i]? = some d) : ∃ x, l[i]? = some x ∧ d = .tuple [.int (i : Int), x] := by
  unfold enD at e
  rw [List.getElem?_zipWith] at e
  by_cases hi : i < l.length
  · rw [List.getElem?_range hi, List.getElem?_eq_getElem hi] at e
    simp only [Option.some.injEq] at e
    exact ⟨_, List.getElem?_eq_getElem hi, e.symm⟩
  · have : (List.range l.length)[i]? = none := by rw [List.getElem?_eq_none_iff, List.length_range]; omega
    rw [this] at e
    cases e
theorem enD_len (l : List D) : (enD l).length = l.length := by simp [enD]
def ixEn (f : Ex) : Ix := fun δ => match f δ with
  | .ok (.d (.list l)) δ1 => .inl (some (enD l, δ1))
  | .ok (.d (.tuple l)) δ1 => .inl (some (enD l, δ1))
  | .ok (.sl i) δ1 => (match δ1.getD i none with
    | some (.bor l) => .inl (some (enD l, δ1))
    | _ => .inl none)
  | .ok _ _ => .inl none
  | .ex c a δ1 => .inr (c, a, δ1)
  | .bad => .inl none
section
variable {K : PySem.W.Frag} {mg : Str → Option Value} {W : WX} {ta tb : TE} {fa fb fc : Ex}
theorem fzPair {F H : Hp} {T : Addr} {x : V} {d : D} {i : Int} (sub : Same F H) (n : H T = none) (h : Fz K mg F x d) : ∃ F', Grow F H F' (upd H T (.tup [.int i, x])) ∧ Fz K mg F' (.ref T) (.tuple [.int i, d]) := by
  have := fzNewT (p := T) sub n (.cons (.int i) (.cons h .nil))
  exact ⟨_, this.1, this.2⟩
theorem wks_enumL {a : Addr} {vs : List V} {l : List D} {F0 : Hp} (h : FzAll K mg F0 vs l) : Wks K mg (Ite K a) (enD l) (fun F H => Same F0 F ∧ H a = some (.lst vs)) where
  stop := fun F H _ ⟨_, h2⟩ i hi => ⟨vs, .inl (.inl h2), by rw [h.len]; rwa [enD_len] at hi⟩
  go := fun F H _ ⟨_, h2⟩ i d e => by
    obtain ⟨x, ex, _⟩ := enD_get e
    obtain ⟨v, h3, _⟩ := h.get ex
    exact ⟨vs, v, .inl (.inl h2), h3⟩
  yld := fun F H i d x H' sub ⟨h1, h2⟩ e y => by
    obtain ⟨T, v, rfl, nT, rfl, y⟩ := y
    obtain ⟨z, ez, rfl⟩ := enD_get e
    obtain ⟨v', h3, h4⟩ := h.get ez
    have h5 := y vs (.inl (.inl h2))
    rw [h3] at h5
    cases h5
    exact fzPair sub nT (h4.mono h1)
theorem wks_enumT {a : Addr} {vs : List V} {l : List D} {F0 : Hp} (hs : SqT K F0 a vs) (h : FzAll K mg F0 vs l) : Wks K mg (IteT K a) (enD l) (fun F H => Same F0 F) where
  stop := fun F H sub h1 i hi => ⟨vs, same_sqT (h1.trans sub) hs, by rw [h.len]; rwa [enD_len] at hi⟩
  go := fun F H sub h1 i d e => by
    obtain ⟨x, ex, _⟩ := enD_get e
    obtain ⟨v, h3, _⟩ := h.get ex
    exact ⟨vs, v, same_sqT (h1.trans sub) hs, h3⟩
  yld := fun F H i d x H' sub h1 e y => by
    obtain ⟨T, v, rfl, nT, rfl, y⟩ := y
    obtain ⟨z, ez, rfl⟩ := enD_get e
    obtain ⟨v', h3, h4⟩ := h.get ez
    have h5 := y vs (same_sqT (h1.trans sub) hs)
    rw [h3] at h5
    cases h5
    exact fzPair sub nT (h4.mono h1)
theorem mni_en (ha : MnE K mg W ta fa) : MnI K mg W (iEnumA K ta) (ixEn fa) where
  ok := fun σ H F L δ P l δ' R Rp e k => by
    simp only [ixEn] at e
    cases q : fa δ with
    | ok r δ1 =>
      rw [q] at e
      refine ha.ok σ H F L δ P r δ1 _ Rp q fun v H1 F1 P1 p R1 rs => ?_
      cases r with
      | d x =>
        cases x with
        | list m =>
          cases e
          cases (show Fz K mg F1 v (.list _) from rs) with
          | lst h1 h2 =>
            rename_i a vs
            exact ⟨a, rfl, .inl ⟨⟨vs, .inl (.inl (R1.sub _ _ h1))⟩, k _ H1 F1 P1 _ p R1 ⟨Same.refl _, R1.sub _ _ h1⟩ (stays_list (.inl h1)) (wks_enumL h2)⟩⟩
        | tuple m =>
          cases e
          cases (show Fz K mg F1 v (.tuple _) from rs) with
          | tup h1 h2 =>
            rename_i a vs
            exact ⟨a, rfl, .inr ⟨⟨vs, same_sqT R1.sub h1⟩, k _ H1 F1 P1 _ p R1 (Same.refl _) stays_fz (wks_enumT h1 h2)⟩⟩
        | _ => cases e
      | sl i =>
        simp only at e
        cases q2 : δ1.getD i none with
        | none => rw [q2] at e; cases e
        | some t =>
          rw [q2] at e
          cases t with
          | bor m =>
            cases e
            obtain ⟨w, h1, a, vs, rfl, h2, h3, h4, h5, h6⟩ := R1.at_ i _ q2
            have hv : σ.getD i none = some v := rs
            rw [h1] at hv
            cases hv
            exact ⟨a, rfl, .inl ⟨⟨vs, .inl (.inl h2)⟩, k _ H1 F1 P1 _ p R1 ⟨Same.refl _, h2⟩ (stays_list (.inr h4)) (wks_enumL h5)⟩⟩
          | _ => cases e
    | ex c a δ1 => rw [q] at e; cases e
    | bad => rw [q] at e; cases e
  ex := fun σ H F L δ P c a δ' R Rp e k => by
    simp only [ixEn] at e
    cases q : fa δ with
    | ok r δ1 =>
      rw [q] at e
      cases r with
      | d x => cases x <;> cases e
      | sl i => simp only at e; split at e <;> cases e
    | ex c1 a1 δ1 => rw [q] at e; cases e; exact ha.ex σ H F L δ P _ _ _ _ Rp q k
    | bad => rw [q] at e; cases e
/-! ### range(i, j, c) -/
def rng3D (i c : Int) (n : Nat) : List D := (List.range n).map fun (k : Nat) => PyData.int (i + (k : Int) * c)
def rgN (i j c : Int) : Nat := (Builtin.Range.rangeSize i j c).toNat
def rgOk (i j c : Int) : Bool := decide (c ≠ 0 ∧ c.natAbs < 1073741824 ∧ 0 ≤ Builtin.Range.rangeSize i j c) && Builtin.Range.small i j c
theorem rgOk_C {i j c : Int} (h : rgOk i j c = true) : RgC i j c (rgN i j c) := by
  unfold rgOk at h
  rw [Bool.and_eq_true, decide_eq_true_eq] at h
  exact ⟨h.1.1, h.1.2.1, h.2, (Int.toNat_of_nonneg h.1.2.2).symm⟩
def ixR3 (f g h : Ex) : Ix := fun δ => match evA [f, g, h] δ with
  | .ok [.d (.int i), .d (.int j), .d (.int c)] δ1 => if rgOk i j c = true then .inl (some (rng3D i c (rgN i j c), δ1)) else .inl none
  | .ok _ _ => .inl none
  | .ex c a δ1 => .inr (c, a, δ1)
  | .bad => .inl none
theorem rng3D_len (lo c : Int) (n : Nat) : (rng3D lo c n).length = n := by simp [rng3D]
theorem rng3D_get {lo c : Int} {n i : Nat} {d : D} (e : (rng3D lo c n)[i]? = some d) : i < n ∧ d = .int (lo + (i : Int) * c) := by
  have hi : i < n := by have := (List.getElem?_eq_some_iff.mp e).1; rwa [rng3D_len] at this
  refine ⟨hi, ?_⟩
  simp only [rng3D, List.getElem?_map, List.getElem?_range hi, Option.map_some, Option.some.injEq] at e
  exact e.symm
theorem wks_rng3 {lo c : Int} {n : Nat} : Wks K mg (Itc lo c n) (rng3D lo c n) (fun _ _ => True) where
  stop := fun F H _ _ i hi => by rw [rng3D_len] at hi; exact hi
  go := fun F H _ _ i d e => (rng3D_get e).1
  yld := fun F H i d x H' sub _ e y => by
    obtain ⟨rfl, rfl⟩ := y
    rw [(rng3D_get e).2]
    exact ⟨F, Grow.refl sub, .int _⟩
theorem mni_rng3 {t : TA} (ha : MnA K mg W t (evA [fa, fb, fc])) : MnI K mg W (iRng3 t) (ixR3 fa fb fc) where
  ok := fun σ H F L δ P l δ' R Rp e k => by
    simp only [ixR3] at e
    cases q : evA [fa, fb, fc] δ with
    | ok r δ1 =>
      rw [q] at e
      refine ha.ok σ H F L δ P r δ1 _ Rp q fun v H1 F1 P1 p R1 rs => ?_
      split at e
      · rename_i i j c δ2 hh
        cases hh
        split at e
        · rename_i hj
          cases e
          match v, rs with
          | [v1, v2, v3], ⟨r1, r2, r3, _⟩ =>
            cases (show Fz K mg F1 v1 (.int i) from r1)
            cases (show Fz K mg F1 v2 (.int j) from r2)
            cases (show Fz K mg F1 v3 (.int c) from r3)
            exact ⟨i, j, c, _, rfl, rgOk_C hj, k _ H1 F1 P1 _ p R1 True.intro (fun _ _ _ _ _ _ _ _ _ _ _ => True.intro) wks_rng3⟩
        · cases e
      · cases e
      · rename_i hh; cases hh
      · rename_i hh; cases hh
    | ex c a δ1 => rw [q] at e; cases e
    | bad => rw [q] at e; cases e
  ex := fun σ H F L δ P c a δ' R Rp e k => by
    simp only [ixR3] at e
    cases q : evA [fa, fb, fc] δ with
    | ok r δ1 =>
      rw [q] at e
      split at e
      · split at e <;> cases e
      · cases e
      · rename_i hh; cases hh
      · cases e
    | ex c1 a1 δ1 => rw [q] at e; cases e; exact ha.ex σ H F L δ P _ _ _ _ Rp q k
    | bad => rw [q] at e; cases e
/-! ### list(range(..)), tuple(range(..)) -/
noncomputable def gRng1 (mk : List D → D) : D → Option D
  | .int j => cif (-1000000000 ≤ j ∧ j ≤ 16000000) (some (mk (rngD 0 j.toNat))) (none)
  | _ => none
noncomputable def gRng2 (mk : List D → D) : D → D → Option D
  | .int i, .int j => cif (-1000000000 ≤ i ∧ i ≤ 1000000000 ∧ -1000000000 ≤ j ∧ j ≤ 1000000000 ∧ j - i ≤ 16000000) (some (mk (rngD i (j - i).toNat))) (none)
  | _, _ => none
abbrev rRg1 (o : List V → HO) : V → Hp → VK → Prop := fun x H Q => ∃ n, x = .int n ∧ RgOk 0 n ∧ ∀ q, H q = none → Q (.ref q) (upd H q (o (rgV 0 n)))
abbrev rRg2 (o : List V → HO) : R2 := fun x y H Q => ∃ i j, x = .int i ∧ y = .int j ∧ RgOk i j ∧ ∀ q, H q = none → Q (.ref q) (upd H q (o (rgV i j)))
theorem fz_rg {F : Hp} (i j : Int) : FzAll K mg F (rgV i j) (rngD i (j - i).toNat) := by
  unfold rgV rngD
  generalize (List.range (j - i).toNat) = l
  induction l with
  | nil => exact .nil
  | cons n l ih => exact .cons (.int _) ih
theorem o1_rgL : Op1 K mg (rRg1 .lst) (gRng1 .list) := by
  intro F H v x z Q sub hx e k
  cases x with
  | int j =>
    simp only [gRng1, cif] at e
    split at e
    · rename_i hj
      cases e
      refine ⟨j, vwI hx, ⟨by omega, by omega, by omega, by omega, by omega⟩, fun q nq => ?_⟩
      have z := fz_rg (K := K) (mg := mg) (F := F) 0 j
      rw [Int.sub_zero] at z
      have := fzNewL (p := q) sub nq z
      exact k _ _ _ this.1 this.2
    · cases e
  | _ => cases e
theorem o1_rgT : Op1 K mg (rRg1 .tup) (gRng1 .tuple) := by
  intro F H v x z Q sub hx e k
  cases x with
  | int j =>
    simp only [gRng1, cif] at e
    split at e
    · rename_i hj
      cases e
      refine ⟨j, vwI hx, ⟨by omega, by omega, by omega, by omega, by omega⟩, fun q nq => ?_⟩
      have z := fz_rg (K := K) (mg := mg) (F := F) 0 j
      rw [Int.sub_zero] at z
      have := fzNewT (p := q) sub nq z
      exact k _ _ _ this.1 this.2
    · cases e
  | _ => cases e
theorem o2_rgL : Op2 K mg (rRg2 .lst) (gRng2 .list) := by
  intro F H v w x y z Q sub hx hy e k
  cases x with
  | int i => cases y with
    | int j =>
      simp only [gRng2, cif] at e
      split at e
      · rename_i hj
        cases e
        refine ⟨i, j, vwI hx, vwI hy, ⟨by omega, by omega, by omega, by omega, by omega⟩, fun q nq => ?_⟩
        have := fzNewL (p := q) sub nq (fz_rg (K := K) (mg := mg) (F := F) i j)
        exact k _ _ _ this.1 this.2
      · cases e
    | _ => cases e
  | _ => cases e
theorem o2_rgT : Op2 K mg (rRg2 .tup) (gRng2 .tuple) := by
  intro F H v w x y z Q sub hx hy e k
  cases x with
  | int i => cases y with
    | int j =>
      simp only [gRng2, cif] at e
      split at e
      · rename_i hj
        cases e
        refine ⟨i, j, vwI hx, vwI hy, ⟨by omega, by omega, by omega, by omega, by omega⟩, fun q nq => ?_⟩
        have := fzNewT (p := q) sub nq (fz_rg (K := K) (mg := mg) (F := F) i j)
        exact k _ _ _ this.1 this.2
      · cases e
    | _ => cases e
  | _ => cases e
end
section
variable {X : Cx} {W : WX} {a b e tg : Expr} {fa fb fc : Ex} {ta tb tc : TE} {p p2 pos pos2 tpos : Pos} {elts : List Expr} {kk : Nat}
theorem di_en (ha : DE X W e ta fa) (hm : X.mg "enumerate" = none) (hg : Gl X "enumerate" := by rfl) (hs : starEach [e] X.env = (false, eval e X.env) :: starEach [] X.env := by rfl) : DI X W (.Tuple elts kk tpos) (.Call (.Name "enumerate" p) [e] [] pos) (iEnumA X.K ta) (ixEn fa) := ⟨pi_enumA ha.pe hm hg hs, mni_en ha.mn⟩
theorem di_rng3 {es : List Expr} {t : TA} {x y z : Expr} (ha : DA X W [x, y, z] t (evA [fa, fb, fc])) (hm : X.mg "range" = none) (hg : Gl X "range" := by rfl)
    (hs : starEach [x, y, z] X.env = (false, eval x X.env) :: starEach [y, z] X.env := by rfl) (hpl : (backTo pos (starEach [y, z] X.env)).any (·.1) = false := by rfl) : DI X W tg (.Call (.Name "range" p) [x, y, z] [] pos) (iRng3 t) (ixR3 fa fb fc) := ⟨pi_range3 hg hm ha.pe hs hpl, mni_rng3 ha.mn⟩
theorem de_lrng1 (hc : X.calm = true) (ha : DE X W a ta fa) (hm : X.mg "list" = none) (hm2 : X.mg "range" = none) (hg : Gl X "list" := by rfl) (hg2 : Gl X "range" := by rfl) (n1 : starEach [a] X.env = (false, eval a X.env) :: starEach [] X.env := by rfl)
    (n2 : starEach [.Call (.Name "range" p2) [a] [] pos2] X.env = (false, eval (.Call (.Name "range" p2) [a] [] pos2) X.env) :: starEach [] X.env := by rfl) : DE X W (.Call (.Name "list" p) [.Call (.Name "range" p2) [a] [] pos2] [] pos) (tUn (rRg1 .lst) ta) (op1 (gRng1 .list) fa) :=
  ⟨pe_listRg hc hg hm (prg_1 hg2 hm2 ha.pe n1) n2, mn_op1 o1_rgL ha.mn⟩
theorem de_trng1 (hc : X.calm = true) (ha : DE X W a ta fa) (hm : X.mg "tuple" = none) (hm2 : X.mg "range" = none) (hg : Gl X "tuple" := by rfl) (hg2 : Gl X "range" := by rfl) (n1 : starEach [a] X.env = (false, eval a X.env) :: starEach [] X.env := by rfl)
    (n2 : starEach [.Call (.Name "range" p2) [a] [] pos2] X.env = (false, eval (.Call (.Name "range" p2) [a] [] pos2) X.env) :: starEach [] X.env := by rfl) : DE X W (.Call (.Name "tuple" p) [.Call (.Name "range" p2) [a] [] pos2] [] pos) (tUn (rRg1 .tup) ta) (op1 (gRng1 .tuple) fa) :=
  ⟨pe_tupRg hc hg hm (prg_1 hg2 hm2 ha.pe n1) n2, mn_op1 o1_rgT ha.mn⟩
theorem de_lrng2 (hc : X.calm = true) (ha : DE X W a ta fa) (hb : DE X W b tb fb) (hm : X.mg "list" = none) (hm2 : X.mg "range" = none) (hg : Gl X "list" := by rfl) (hg2 : Gl X "range" := by rfl) (n0 : starEach [a, b] X.env = (false, eval a X.env) :: starEach [b] X.env := by rfl) (n1 : starEach [b] X.env = (false, eval b X.env) :: starEach [] X.env := by rfl) (n3 : (backTo pos2 (starEach [b] X.env)).any (·.1) = false := by rfl)
    (n2 : starEach [.Call (.Name "range" p2) [a, b] [] pos2] X.env = (false, eval (.Call (.Name "range" p2) [a, b] [] pos2) X.env) :: starEach [] X.env := by rfl) : DE X W (.Call (.Name "list" p) [.Call (.Name "range" p2) [a, b] [] pos2] [] pos) (tOp (rRg2 .lst) ta tb) (op2 (gRng2 .list) fa fb) :=
  ⟨pe_listRg hc hg hm (prg_2 hg2 hm2 ha.pe hb.pe n0 n1 n3) n2, mn_op2 o2_rgL ha.mn hb.mn⟩
theorem de_trng2 (hc : X.calm = true) (ha : DE X W a ta fa) (hb : DE X W b tb fb) (hm : X.mg "tuple" = none) (hm2 : X.mg "range" = none) (hg : Gl X "tuple" := by rfl) (hg2 : Gl X "range" := by rfl) (n0 : starEach [a, b] X.env = (false, eval a X.env) :: starEach [b] X.env := by rfl) (n1 : starEach [b] X.env = (false, eval b X.env) :: starEach [] X.env := by rfl) (n3 : (backTo pos2 (starEach [b] X.env)).any (·.1) = false := by rfl)
    (n2 : starEach [.Call (.Name "range" p2) [a, b] [] pos2] X.env = (false, eval (.Call (.Name "range" p2) [a, b] [] pos2) X.env) :: starEach [] X.env := by rfl) : DE X W (.Call (.Name "tuple" p) [.Call (.Name "range" p2) [a, b] [] pos2] [] pos) (tOp (rRg2 .tup) ta tb) (op2 (gRng2 .tuple) fa fb) :=
  ⟨pe_tupRg hc hg hm (prg_2 hg2 hm2 ha.pe hb.pe n0 n1 n3) n2, mn_op2 o2_rgT ha.mn hb.mn⟩
end
end Dl

/-! DlQ: comprehensions and loops told as a whole. -/
namespace Dl
open PySem L2

/-! ### one turn's results as rewriting -/
def iN : Re → Option (List D × Env) ⊕ (Str × D × Env)
  | .ok (.d (.list l)) δ1 => .inl (some (enD l, δ1))
  | .ok (.d (.tuple l)) δ1 => .inl (some (enD l, δ1))
  | .ok (.sl i) δ1 => (match δ1.getD i none with
    | some (.bor l) => .inl (some (enD l, δ1))
    | _ => .inl none)
  | .ok _ _ => .inl none
  | .ex c a δ1 => .inr (c, a, δ1)
  | .bad => .inl none
theorem q_ixEn {f : Ex} {δ : Env} : ixEn f δ = iN (f δ) := by
  unfold ixEn iN
  rcases f δ with ⟨r, δ1⟩ | ⟨c, a, δ1⟩ | _
  · rcases r with x | i
    · cases x <;> rfl
    · rfl
  · rfl
  · rfl
theorem iN_l {l : List D} {δ : Env} : iN (.ok (.d (.list l)) δ) = .inl (some (enD l, δ)) := rfl
theorem iN_t {l : List D} {δ : Env} : iN (.ok (.d (.tuple l)) δ) = .inl (some (enD l, δ)) := rfl
def iR3 : ReA → Option (List D × Env) ⊕ (Str × D × Env)
  | .ok [.d (.int i), .d (.int j), .d (.int c)] δ1 => if rgOk i j c = true then .inl (some (rng3D i c (rgN i j c), δ1)) else .inl none
  | .ok _ _ => .inl none
  | .ex c a δ1 => .inr (c, a, δ1)
  | .bad => .inl none
theorem q_ixR3 {f g h : Ex} {δ : Env} : ixR3 f g h δ = iR3 (evA [f, g, h] δ) := rfl
theorem grev_l {l : List D} : gRev (.list l) = some (.list l.reverse) := rfl
theorem grev_t {l : List D} : gRev (.tuple l) = some (.tuple l.reverse) := rfl
/-! ### environments but for some slots -/
section
variable {α : Type}
theorem setL_len : ∀ (vs : List Nat) (δ : Env), (wipeD δ vs).length = δ.length := fun vs δ => wipeD_len vs
theorem getE_wipe {δ : Env} {i : Nat} : ∀ {vs : List Nat}, (wipeD δ vs)[i]? = if i < δ.length then (if i ∈ vs then some none else δ[i]?) else none
  | [] => by
    by_cases h : i < δ.length
    · simp [wipeD, h]
    · simp [wipeD, h]
  | v :: vs => by
    rw [wipeD, List.getElem?_set, wipeD_len, getE_wipe (vs := vs)]
    by_cases h : i < δ.length
    · by_cases hv : v = i
      · subst hv; simp [h]
      · have hv' : ¬ i = v := fun e => hv e.symm
        simp [h, hv, hv']
    · by_cases hv : v = i
      · subst hv; simp [h]
      · simp [h, hv]
theorem restD_len {δ0 δ : Env} : ∀ vs : List Nat, (restD δ0 δ vs).length = δ.length
  | [] => rfl
  | v :: vs => by rw [restD, List.length_set, restD_len vs]
def keepO (o : Option T) : Option T := match o with | some (.d x) => some (.d x) | _ => none
theorem getE_rest {δ0 δ : Env} {i : Nat} : ∀ {vs : List Nat}, (restD δ0 δ vs)[i]? = if i < δ.length then (if i ∈ vs then some (keepO (δ0.getD i none)) else δ[i]?) else none
  | [] => by
    by_cases h : i < δ.length
    · simp [restD, h]
    · simp [restD, h]
  | v :: vs => by
    rw [restD, List.getElem?_set, restD_len, getE_rest (vs := vs)]
    by_cases h : i < δ.length
    · by_cases hv : v = i
      · subst hv
        simp [h, keepO] <;> rfl
      · have hv' : ¬ i = v := fun e => hv e.symm
        simp [h, hv, hv']
    · by_cases hv : v = i
      · subst hv; simp [h]
      · simp [h, hv]
theorem rest_wipe {δ0 δ : Env} {vs : List Nat} : restD δ0 (wipeD δ vs) vs = restD δ0 δ vs := by
  refine List.ext_getElem? fun i => ?_
  rw [getE_rest, getE_rest, wipeD_len, getE_wipe]
  by_cases h : i < δ.length
  · by_cases hv : i ∈ vs <;> simp [h, hv]
  · simp [h]
end
/-! ### comprehensions without effects -/
theorem lcL_gen {vs : List Nat} {t : Tgt} {c : Option Ex} {e : Ex} {δ : Env} (g : D → Env) (p : D → Bool) (f : D → D) : ∀ (l : List D) (δ' : Env) (acc : List D), wipeD δ' vs = wipeD δ vs → acc.length + l.length ≤ 16777216 →
    (∀ x ∈ l, asgT t x (wipeD δ vs) = some (g x) ∧ wipeD (g x) vs = wipeD δ vs ∧ tstE c (g x) = .ok (.d (.bool (p x))) (g x) ∧ (p x = true → e (g x) = .ok (.d (f x)) (g x))) →
    ∃ δ2, wipeD δ2 vs = wipeD δ vs ∧ lcL vs t c e l δ' acc = some (acc ++ (l.filter p).map f, δ2)
  | [], δ', acc, hw, _, _ => ⟨δ', hw, by simp [lcL]⟩
  | x :: l, δ', acc, hw, hl, h => by
    obtain ⟨h1, h2, h3, h4⟩ := h x (List.mem_cons_self ..)
    simp only [List.length_cons] at hl
    cases hp : p x with
    | true =>
      obtain ⟨δ2, q1, q2⟩ := lcL_gen g p f l (g x) (acc ++ [f x]) h2 (by simp; omega) fun y hy => h y (List.mem_cons_of_mem _ hy)
      refine ⟨δ2, q1, ?_⟩
      rw [lc_S, hw, h1, lc1_s, h3, lc2_b, hp, if_pos rfl, h4 hp, lc3_s, fz_d, lc4_s, if_pos (by omega), q2]
      simp [hp]
    | false =>
      obtain ⟨δ2, q1, q2⟩ := lcL_gen g p f l (g x) acc h2 (by omega) fun y hy => h y (List.mem_cons_of_mem _ hy)
      refine ⟨δ2, q1, ?_⟩
      rw [lc_S, hw, h1, lc1_s, h3, lc2_b, hp, if_neg (by simp), q2]
      simp [hp]
theorem lc_gen {n : Nat} {vs : List Nat} {t : Tgt} {fi : Ix} {c : Option Ex} {e : Ex} {δ δ1 : Env} {l : List D} (g : D → Env) (p : D → Bool) (f : D → D) (hn : δ.length = n) (hfi : fi δ = .inl (some (l, δ1))) (hl : l.length ≤ 16777216)
    (h : ∀ x ∈ l, asgT t x (wipeD δ1 vs) = some (g x) ∧ wipeD (g x) vs = wipeD δ1 vs ∧ tstE c (g x) = .ok (.d (.bool (p x))) (g x) ∧ (p x = true → e (g x) = .ok (.d (f x)) (g x))) :
    lcN n vs t fi c e δ = .inl (some (.own ((l.filter p).map f), restD δ1 (wipeD δ1 vs) vs)) := by
  obtain ⟨δ2, q1, q2⟩ := lcL_gen g p f l δ1 [] rfl (by simpa using hl) h
  unfold lcN lcR
  rw [if_pos hn, hfi]
  simp only [q2, List.nil_append]
  rw [← rest_wipe (δ := δ2), q1]
/-! one name -/
theorem lc_nm {n i : Nat} {fi : Ix} {c : Option Ex} {e : Ex} {δ δ1 : Env} {l : List D} (p : D → Bool) (f : D → D) (hn : δ.length = n) (hfi : fi δ = .inl (some (l, δ1))) (hl : l.length ≤ 16777216)
    (h : ∀ x ∈ l, tstE c (δ1.set i (some (.d x))) = .ok (.d (.bool (p x))) (δ1.set i (some (.d x))) ∧ (p x = true → e (δ1.set i (some (.d x))) = .ok (.d (f x)) (δ1.set i (some (.d x))))) :
    lcN n [i] (.nm i) fi c e δ = .inl (some (.own ((l.filter p).map f), δ1.set i (keepO (δ1.getD i none)))) := by
  have e1 := lc_gen (vs := [i]) (t := .nm i) (c := c) (e := e) (fun x => δ1.set i (some (.d x))) p f hn hfi hl fun x hx => ⟨by simp [wipeD, asgT], by simp [wipeD], h x hx⟩
  rw [e1]
  simp only [wipeD, restD, List.set_set]
  rfl
/-- without a test -/
theorem lc_map {n i : Nat} {fi : Ix} {e : Ex} {δ δ1 : Env} {l : List D} (f : D → D) (hn : δ.length = n) (hfi : fi δ = .inl (some (l, δ1))) (hl : l.length ≤ 16777216)
    (h : ∀ x ∈ l, e (δ1.set i (some (.d x))) = .ok (.d (f x)) (δ1.set i (some (.d x)))) :
    lcN n [i] (.nm i) fi none e δ = .inl (some (.own (l.map f), δ1.set i (keepO (δ1.getD i none)))) := by
  have e1 := lc_nm (i := i) (c := none) (e := e) (fun _ => true) f hn hfi hl fun x hx => ⟨rfl, fun _ => h x hx⟩
  rw [e1, List.filter_eq_self.mpr (by simp)]
/-! two names of a pair -/
theorem lc_tp {n i j : Nat} {fi : Ix} {c : Option Ex} {e : Ex} {δ δ1 : Env} {l : List D} (p : D → Bool) (f : D → D) (hij : i ≠ j) (hn : δ.length = n) (hfi : fi δ = .inl (some (l, δ1))) (hl : l.length ≤ 16777216)
    (h : ∀ x ∈ l, ∃ u v, (x = .tuple [u, v] ∨ x = .list [u, v]) ∧ tstE c ((δ1.set i (some (.d u))).set j (some (.d v))) = .ok (.d (.bool (p x))) ((δ1.set i (some (.d u))).set j (some (.d v))) ∧
      (p x = true → e ((δ1.set i (some (.d u))).set j (some (.d v))) = .ok (.d (f x)) ((δ1.set i (some (.d u))).set j (some (.d v))))) :
    lcN n [i, j] (.tp [.nm i, .nm j]) fi c e δ = .inl (some (.own ((l.filter p).map f), (δ1.set i (keepO (δ1.getD i none))).set j (keepO (δ1.getD j none)))) := by
  let gu : D → D := fun x => match x with | .tuple [u, _] => u | .list [u, _] => u | _ => .none
  let gv : D → D := fun x => match x with | .tuple [_, v] => v | .list [_, v] => v | _ => .none
  have cm : ∀ (δ : Env) (a b c d : Option T), ((((δ.set j a).set i b).set i c).set j d) = (δ.set i c).set j d := fun δ a b c d => by
    rw [List.set_set, List.set_comm _ _ hij, List.set_set, List.set_comm _ _ (Ne.symm hij)]
  have e1 := lc_gen (vs := [i, j]) (t := .tp [.nm i, .nm j]) (c := c) (e := e) (fun x => (δ1.set i (some (.d (gu x)))).set j (some (.d (gv x)))) p f hn hfi hl fun x hx => by
    obtain ⟨u, v, hx', h1, h2⟩ := h x hx
    have eu : gu x = u := by rcases hx' with rfl | rfl <;> rfl
    have ev : gv x = v := by rcases hx' with rfl | rfl <;> rfl
    simp only [eu, ev]
    refine ⟨?_, ?_, h1, h2⟩
    · have : asgT (.tp [.nm i, .nm j]) x (wipeD δ1 [i, j]) = asgTs [.nm i, .nm j] [u, v] (wipeD δ1 [i, j]) := by rcases hx' with rfl | rfl <;> rfl
      rw [this]
      simp only [wipeD, aTs_n, aTs_0]
      rw [cm]
    · simp only [wipeD]
      rw [List.set_set, List.set_comm _ _ hij, List.set_set, List.set_comm _ _ (Ne.symm hij)]
  rw [e1]
  simp only [wipeD, restD]
  refine congrArg (fun z => Sum.inl (some (_, z))) ?_
  have hk : ∀ k, (match δ1.getD k none with | some (.d x) => some (T.d x) | _ => none) = keepO (δ1.getD k none) := fun k => rfl
  have cm2 : ∀ (a b c d : Option T), ((((δ1.set j a).set i b).set j d).set i c) = (δ1.set i c).set j d := fun a b c d => by
    refine List.ext_getElem? fun k => ?_
    simp only [List.getElem?_set, List.length_set]
    by_cases h1 : i = k
    · subst h1
      have : ¬ j = i := fun e => hij e.symm
      simp [this]
    · by_cases h2 : j = k
      · subst h2; simp [h1]
      · simp [h1, h2]
  rw [cm2]
  rfl
/-! ### for -/
/-- a loop that goes on along a state -/
theorem forL_step {σ : Type} {t : Tgt} {b : Sx} (R : σ → Env → Prop) (step : σ → D → σ) : ∀ (l : List D), (∀ x ∈ l, ∀ s δ, R s δ → ∃ δ1, asgT t x δ = some δ1 ∧ ∃ δ2, (b δ1 = .nx δ2 ∨ b δ1 = .ct δ2) ∧ R (step s x) δ2) →
    ∀ s δ, R s δ → ∃ δ', forL t b l δ = .nx δ' ∧ R (l.foldl step s) δ'
  | [], _, s, δ, h => ⟨δ, rfl, h⟩
  | x :: l, st, s, δ, h => by
    obtain ⟨δ1, e1, δ2, e2, h2⟩ := st x (List.mem_cons_self ..) s δ h
    obtain ⟨δ', e3, h3⟩ := forL_step R step l (fun y hy => st y (List.mem_cons_of_mem _ hy)) (step s x) δ2 h2
    refine ⟨δ', ?_, h3⟩
    rcases e2 with e2 | e2
    · rw [fL_S, e1, fL1_s, e2, fL2_n, e3]
    · rw [fL_S, e1, fL1_s, e2, fL2_c, e3]
/-- a loop that leaves at the first item that is not as it should be -/
theorem forL_all {σ : Type} {t : Tgt} {b : Sx} (R : σ → Env → Prop) (step : σ → D → σ) (ok : σ → D → Bool) (O : Out → Prop) (hO : ∀ o, O o → ∀ l, fL2 t b l o = o) : ∀ (l : List D),
    (∀ x ∈ l, ∀ s δ, R s δ → ∃ δ1, asgT t x δ = some δ1 ∧ (if ok s x = true then ∃ δ2, (b δ1 = .nx δ2 ∨ b δ1 = .ct δ2) ∧ R (step s x) δ2 else O (b δ1))) →
    ∀ s δ, R s δ → (∃ δ' s', forL t b l δ = .nx δ' ∧ R s' δ' ∧ s' = l.foldl step s ∧ ∀ i x, l[i]? = some x → ok ((l.take i).foldl step s) x = true) ∨
      (O (forL t b l δ) ∧ ∃ i x, l[i]? = some x ∧ ok ((l.take i).foldl step s) x = false)
  | [], _, s, δ, h => .inl ⟨δ, s, rfl, h, rfl, fun i x e => by simp at e⟩
  | x :: l, st, s, δ, h => by
    obtain ⟨δ1, e1, e2⟩ := st x (List.mem_cons_self ..) s δ h
    cases hk : ok s x with
    | true =>
      rw [if_pos hk] at e2
      obtain ⟨δ2, e2, h2⟩ := e2
      have e3 : forL t b (x :: l) δ = forL t b l δ2 := by
        rcases e2 with e2 | e2
        · rw [fL_S, e1, fL1_s, e2, fL2_n]
        · rw [fL_S, e1, fL1_s, e2, fL2_c]
      rcases forL_all R step ok O hO l (fun y hy => st y (List.mem_cons_of_mem _ hy)) (step s x) δ2 h2 with ⟨δ', s', q1, q2, q3, q4⟩ | ⟨q1, i, y, q2, q3⟩
      · refine .inl ⟨δ', s', by rw [e3, q1], q2, by rw [List.foldl_cons, q3], fun i y e => ?_⟩
        cases i with
        | zero => simp at e; subst e; exact hk
        | succ i => simp at e; simpa using q4 i y e
      · exact .inr ⟨by rw [e3]; exact q1, i + 1, y, by simpa using q2, by simpa using q3⟩
    | false =>
      rw [hk, if_neg (by simp)] at e2
      refine .inr ⟨?_, 0, x, rfl, by simpa using hk⟩
      rw [fL_S, e1, fL1_s, hO _ e2]
      exact e2
end Dl

/-! DlP: loops over ranges, while loops, told as a whole. -/
namespace Dl
open PySem L2
theorem rngD_S (lo : Int) (n : Nat) : rngD lo (n + 1) = .int lo :: rngD (lo + 1) n := by
  unfold rngD
  rw [List.range_succ_eq_map, List.map_cons, List.map_map]
  congr 1
  · simp
  · refine List.map_congr_left fun i _ => ?_
    show PyData.int (lo + ((i + 1 : Nat) : Int)) = PyData.int (lo + 1 + (i : Int))
    congr 1
    omega
/-- a loop over a range that keeps a property of the turn -/
theorem forR_inv {v : Nat} {b : Sx} (I : Nat → Env → Prop) : ∀ (n : Nat) (lo : Int) (k0 : Nat), (∀ k < n, ∀ δ, I (k0 + k) δ → ∃ δ2, (b (δ.set v (some (.d (.int (lo + (k : Int)))))) = .nx δ2 ∨ b (δ.set v (some (.d (.int (lo + (k : Int)))))) = .ct δ2) ∧ I (k0 + k + 1) δ2) →
    ∀ δ, I k0 δ → ∃ δ', forL (.nm v) b (rngD lo n) δ = .nx δ' ∧ I (k0 + n) δ'
  | 0, lo, k0, _, δ, h => ⟨δ, rfl, h⟩
  | n + 1, lo, k0, st, δ, h => by
    obtain ⟨δ2, e2, h2⟩ := st 0 (Nat.succ_pos n) δ h
    have e0 : lo + ((0 : Nat) : Int) = lo := by simp
    rw [e0] at e2
    obtain ⟨δ', e3, h3⟩ := forR_inv I n (lo + 1) (k0 + 1) (fun k hk δ hi => by
      have := st (k + 1) (by omega) δ (by rw [show k0 + (k + 1) = k0 + 1 + k by omega]; exact hi)
      have e1 : lo + ((k + 1 : Nat) : Int) = lo + 1 + (k : Int) := by omega
      rw [e1] at this
      rw [show k0 + 1 + k + 1 = k0 + (k + 1) + 1 by omega]
      exact this) δ2 h2
    refine ⟨δ', ?_, by rw [show k0 + (n + 1) = k0 + 1 + n by omega]; exact h3⟩
    rw [rngD_S, fL_S, aT_n, fL1_s]
    rcases e2 with e2 | e2
    · rw [e2, fL2_n, e3]
    · rw [e2, fL2_c, e3]
/-- .. that may be left: at the first turn that is not as it should be -/
theorem forR_all {v : Nat} {b : Sx} (I : Nat → Env → Prop) (ok : Nat → Bool) (O : Nat → Out → Prop) (hO : ∀ k o, O k o → ∀ l, fL2 (.nm v) b l o = o) : ∀ (n : Nat) (lo : Int) (k0 : Nat),
    (∀ k < n, ∀ δ, I (k0 + k) δ → if ok (k0 + k) = true then ∃ δ2, (b (δ.set v (some (.d (.int (lo + (k : Int)))))) = .nx δ2 ∨ b (δ.set v (some (.d (.int (lo + (k : Int)))))) = .ct δ2) ∧ I (k0 + k + 1) δ2 else O (k0 + k) (b (δ.set v (some (.d (.int (lo + (k : Int)))))))) →
    ∀ δ, I k0 δ → (∃ δ', forL (.nm v) b (rngD lo n) δ = .nx δ' ∧ I (k0 + n) δ' ∧ ∀ k < n, ok (k0 + k) = true) ∨ ∃ k < n, O (k0 + k) (forL (.nm v) b (rngD lo n) δ) ∧ ok (k0 + k) = false ∧ ∀ j < k, ok (k0 + j) = true
  | 0, lo, k0, _, δ, h => .inl ⟨δ, rfl, h, fun k hk => absurd hk (Nat.not_lt_zero k)⟩
  | n + 1, lo, k0, st, δ, h => by
    have s0 := st 0 (Nat.succ_pos n) δ h
    have e0 : lo + ((0 : Nat) : Int) = lo := by simp
    rw [e0] at s0
    simp only [Nat.add_zero] at s0
    cases hk : ok k0 with
    | true =>
      rw [if_pos hk] at s0
      obtain ⟨δ2, e2, h2⟩ := s0
      have e4 : forL (.nm v) b (rngD lo (n + 1)) δ = forL (.nm v) b (rngD (lo + 1) n) δ2 := by
        rw [rngD_S, fL_S, aT_n, fL1_s]
        rcases e2 with e2 | e2
        · rw [e2, fL2_n]
        · rw [e2, fL2_c]
      rcases forR_all I ok O hO n (lo + 1) (k0 + 1) (fun k hk δ hi => by
        have := st (k + 1) (by omega) δ (by rw [show k0 + (k + 1) = k0 + 1 + k by omega]; exact hi)
        have e1 : lo + ((k + 1 : Nat) : Int) = lo + 1 + (k : Int) := by omega
        rw [e1, show k0 + (k + 1) = k0 + 1 + k by omega] at this
        exact this) δ2 h2 with ⟨δ', e3, h3, h4⟩ | ⟨k, q1, q2, q3, q4⟩
      · refine .inl ⟨δ', by rw [e4, e3], by rw [show k0 + (n + 1) = k0 + 1 + n by omega]; exact h3, fun k hk' => ?_⟩
        cases k with
        | zero => exact hk
        | succ k => rw [show k0 + (k + 1) = k0 + 1 + k by omega]; exact h4 k (by omega)
      · refine .inr ⟨k + 1, by omega, by rw [e4, show k0 + (k + 1) = k0 + 1 + k by omega]; exact q2, by rw [show k0 + (k + 1) = k0 + 1 + k by omega]; exact q3, fun j hj => ?_⟩
        cases j with
        | zero => exact hk
        | succ j => rw [show k0 + (j + 1) = k0 + 1 + j by omega]; exact q4 j (by omega)
    | false =>
      rw [hk, if_neg (by simp)] at s0
      refine .inr ⟨0, Nat.succ_pos n, ?_, hk, fun j hj => absurd hj (Nat.not_lt_zero j)⟩
      rw [rngD_S, fL_S, aT_n, fL1_s, hO _ _ s0]
      exact s0
/-- a while loop that ends: a measure, a property -/
theorem whl_inv {c : Ex} {b : Sx} (I : Nat → Env → Prop) (Q : Env → Prop) (h : ∀ m δ, I m δ → (∃ δ1, c δ = .ok (.d (.bool false)) δ1 ∧ Q δ1) ∨ ∃ δ1, c δ = .ok (.d (.bool true)) δ1 ∧ ∃ δ2, (b δ1 = .nx δ2 ∨ b δ1 = .ct δ2) ∧ ∃ m' < m, I m' δ2) :
    ∀ m δ, I m δ → ∃ δ', whlS c b δ = .nx δ' ∧ Q δ' := fun m => by
  induction m using Nat.strongRecOn with
  | ind m ih =>
    intro δ hi
    rcases h m δ hi with ⟨δ1, e, q⟩ | ⟨δ1, e, δ2, e2, m', hm, h2⟩
    · exact ⟨δ1, by rw [s_whl, e]; rfl, q⟩
    · obtain ⟨δ', e3, q⟩ := ih m' hm δ2 h2
      refine ⟨δ', ?_, q⟩
      rw [s_whl, e, ou_ok]
      show wh1 c b (b δ1) = _
      rcases e2 with e2 | e2
      · rw [e2]; exact e3
      · rw [e2]; exact e3
/-- a while loop along a relation of turns -/
theorem whl_turn {c : Ex} {b : Sx} {δ δ1 δ2 : Env} (e : c δ = .ok (.d (.bool true)) δ1) (e2 : b δ1 = .nx δ2) : whlS c b δ = whlS c b δ2 := by
  rw [s_whl, e, ou_ok]
  show wh1 c b (b δ1) = _
  rw [e2]
  rfl
theorem whl_stop {c : Ex} {b : Sx} {δ δ1 : Env} (e : c δ = .ok (.d (.bool false)) δ1) : whlS c b δ = .nx δ1 := by
  rw [s_whl, e]
  rfl
end Dl

/-! DlAa: a, b = e1, e2 where what is new stays the call's own. -/
namespace Dl
open PySem L2

def dN (f : Ex) : Nx := fun δ => match f δ with
  | .ok r δ1 => (match frz r δ1 with
    | some (x, δ2) => .inl (some (.d x, δ2))
    | none => .inl none)
  | .ex c a δ1 => .inr (c, a, δ1)
  | .bad => .inl none
def evN : List Nx → Env → Option (List T × Env) ⊕ (Str × D × Env)
  | [], δ => .inl (some ([], δ))
  | f :: fs, δ => match f δ with
    | .inl (some (t, δ1)) => if okT (some t) = true then (match evN fs δ1 with
      | .inl (some (ts, δ2)) => .inl (some (t :: ts, δ2))
      | .inl none => .inl none
      | .inr e => .inr e) else .inl none
    | .inl none => .inl none
    | .inr e => .inr e
def setTs : List Nat → List T → Env → Option Env
  | j :: js, t :: ts, δ => setTs js ts (δ.set j (some t))
  | [], [], δ => some δ
  | _, _, _ => none
/-- r: stored from the right -/
def asgP (r : Bool) (js : List Nat) (fs : List Nx) : Sx := fun δ => match evN fs δ with
  | .inl (some (ts, δ1)) => (match setTs js (if r = true then ts.reverse else ts) δ1 with
    | some δ2 => .nx δ2
    | none => .bad)
  | .inl none => .bad
  | .inr (c, a, δ1) => .ex c a δ1
inductive OwAll (K : PySem.W.Frag) (mg : Str → Option Value) (F H : Hp) (L : Addr → Prop) : List V → List T → List (Addr → Prop) → Prop
  | nil : OwAll K mg F H L [] [] []
  | cons {v : V} {vs : List V} {t : T} {ts : List T} {p : Addr → Prop} {ps : List (Addr → Prop)} : Ow K mg F H L v t p → OwAll K mg F H L vs ts ps → OwAll K mg F H L (v :: vs) (t :: ts) (p :: ps)
def Un (ps : List (Addr → Prop)) : Addr → Prop := fun a => ∃ p ∈ ps, p a
def Apart (p q : Addr → Prop) : Prop := ∀ a, p a → ¬ q a
section
variable {K : PySem.W.Frag} {mg : Str → Option Value} {F H F' H' : Hp} {L : Addr → Prop} {σ : L2.St} {δ δ' : Env} {P : Nat → Addr → Prop} {vs ws : List V} {ts us : List T} {ps qs : List (Addr → Prop)}
theorem OwAll.len1 : ∀ {vs : List V} {ts : List T} {ps : List (Addr → Prop)}, OwAll K mg F H L vs ts ps → vs.length = ts.length
  | _, _, _, .nil => rfl
  | _, _, _, .cons _ r => by rw [List.length_cons, List.length_cons, r.len1]
theorem OwAll.append : ∀ {vs ws : List V} {ts us : List T} {ps qs : List (Addr → Prop)}, OwAll K mg F H L vs ts ps → OwAll K mg F H L ws us qs → OwAll K mg F H L (vs ++ ws) (ts ++ us) (ps ++ qs)
  | _, _, _, _, _, _, .nil, h => h
  | _, _, _, _, _, _, .cons a r, h => .cons a (r.append h)
theorem OwAll.reverse : ∀ {vs : List V} {ts : List T} {ps : List (Addr → Prop)}, OwAll K mg F H L vs ts ps → OwAll K mg F H L vs.reverse ts.reverse ps.reverse
  | _, _, _, .nil => .nil
  | _, _, _, .cons a r => by
    rw [List.reverse_cons, List.reverse_cons, List.reverse_cons]
    exact r.reverse.append (.cons a .nil)
theorem OwAll.grow (g : Grow F H F' H') : ∀ {vs : List V} {ts : List T} {ps : List (Addr → Prop)}, OwAll K mg F H L vs ts ps → OwAll K mg F' H' L vs ts ps
  | _, _, _, .nil => .nil
  | _, _, _, .cons a r => by
    refine .cons (a.step g.mono (fun b o q _ => g.keep b o q) fun b p => ?_) (r.grow g)
    obtain ⟨h1, h2⟩ := a.has p
    cases q : F' b with
    | none => rfl
    | some u =>
      rcases g.new b (by rw [q]; simp) with z | z
      · exact absurd h2 z
      · exact absurd z h1
theorem Ow.okL {v : V} {t : T} {p : Addr → Prop} (h : Ow K mg F H L v t p) (ok : okT (some t) = true) : ∀ a, p a → ¬ L a := by
  intro a pa
  cases t with
  | d x => exact absurd pa (h.2 a)
  | own l => obtain ⟨b, vs, rfl, h1, h2, h3, h4, h5⟩ := h; rw [(h5 a).mp pa]; exact h3
  | bor l => cases ok
  | odk l => obtain ⟨b, vs, rfl, h1, h2, h3, h4, h5, h6⟩ := h; rw [(h6 a).mp pa]; exact h3
  | odt l => obtain ⟨b, vs, rfl, h1, h2, h3, h4, h5, h6⟩ := h; rw [(h6 a).mp pa]; exact h3
  | bdk l => cases ok
  | bdt l => cases ok
/-- the names are stored -/
theorem names_set {S : List Nat} {Q : L2.St → Hp → Prop} : ∀ {js : List Nat} {vs : List V} {ts : List T} {ps : List (Addr → Prop)} {σ : L2.St} {δ δ' : Env} {P : Nat → Addr → Prop}, (∀ j ∈ js, j ∉ S) → Rep K mg F H L σ δ P → OwAll K mg F H L vs ts ps → ps.Pairwise Apart → (∀ p ∈ ps, ∀ a, p a → ¬ U P a) → setTs js ts δ = some δ' →
    (∀ σ' P', Agree S σ σ' → Rep K mg F H L σ' δ' P' → (∀ a, U P' a → U P a ∨ Un ps a) → Q σ' H) → gNames js vs σ H Q
  | [], vs, ts, ps, σ, δ, δ', P, _, R, o, _, _, e, k => by
    cases o with
    | nil => cases e; exact ⟨rfl, k σ P Agree.refl R fun a z => .inl z⟩
    | cons _ _ => cases e
  | j :: js, vs, ts, ps, σ, δ, δ', P, hj, R, o, ap, au, e, k => by
    cases o with
    | nil => cases e
    | cons a r =>
      rename_i v vs t ts p ps
      rw [List.pairwise_cons] at ap
      have nj := hj j List.mem_cons_self
      refine ⟨v, vs, rfl, ?_⟩
      show gNames js vs (σ.set j (some v)) H Q
      by_cases hl : j < δ.length
      · refine names_set (fun i hi => hj i (List.mem_cons_of_mem _ hi)) (R.store hl a (au p List.mem_cons_self)) r ap.2 (fun q hq b qb z => ?_) e fun σ' P' ag R' w => k σ' P' ((Agree.set nj).trans ag) R' fun b z => ?_
        · rcases U_store z with z | z
          · exact au q (List.mem_cons_of_mem _ hq) b qb z
          · exact ap.1 q hq b z qb
        · rcases w b z with z | ⟨q, hq, z⟩
          · rcases U_store z with z | z
            · exact .inl z
            · exact .inr ⟨p, List.mem_cons_self, z⟩
          · exact .inr ⟨q, List.mem_cons_of_mem _ hq, z⟩
      · have h2 : δ.set j (some t) = δ := set_ge hl
        have h3 : σ.set j (some v) = σ := set_ge (by rw [R.len]; exact hl)
        simp only [setTs] at e
        rw [h2] at e
        rw [h3]
        exact names_set (fun i hi => hj i (List.mem_cons_of_mem _ hi)) R r ap.2 (fun q hq => au q (List.mem_cons_of_mem _ hq)) e fun σ' P' ag R' w => k σ' P' ag R' fun b z => (w b z).imp id fun ⟨q, hq, z⟩ => ⟨q, List.mem_cons_of_mem _ hq, z⟩
end
section
variable (K : PySem.W.Frag) (mg : Str → Option Value) (W : WX)
structure MnB (t : TA) (f : Env → Option (List T × Env) ⊕ (Str × D × Env)) : Prop where
  ok : ∀ σ H F L δ P ts δ' (Q : List V → Hp → Prop), Rep K mg F H L σ δ P → f δ = .inl (some (ts, δ')) →
    (∀ vs H' F' P' ps, Post F H (Wr L P) F' H' (fun a => Wr L P' a ∨ Un ps a) → Rep K mg F' H' L σ δ' P' → OwAll K mg F' H' L vs ts ps → ps.Pairwise Apart → (∀ p ∈ ps, ∀ a, p a → ¬ U P' a) → (∀ p ∈ ps, ∀ a, p a → ¬ L a) → Q vs H') → t σ H Q
  ex : ∀ σ H F L δ P c a δ' (Q : List V → Hp → Prop), Rep K mg F H L σ δ P → f δ = .inr (c, a, δ') →
    (∀ cls d H' F' P', Post F H (Wr L P) F' H' (Wr L P') → Rep K mg F' H' L σ δ' P' → ExcIs K mg F' c a cls d → W cls d σ H') → t σ H Q
end
section
variable {K : PySem.W.Frag} {mg : Str → Option Value} {W : WX} {ta : TE} {tr : TA} {fa : Ex} {fn : Nx} {fs : List Nx}
theorem mn_dN (h : MnE K mg W ta fa) : MnN K mg W ta (dN fa) where
  ok := fun σ H F L δ P t δ' Q R e k => by
    simp only [dN] at e
    cases q : fa δ with
    | ok r δ1 =>
      rw [q] at e
      simp only at e
      cases q2 : frz r δ1 with
      | none => rw [q2] at e; cases e
      | some z =>
        obtain ⟨x, δ2⟩ := z
        rw [q2] at e
        cases e
        refine h.ok σ H F L δ P r δ1 Q R q fun v H1 F1 P1 p1 R1 rs => ?_
        obtain ⟨F2, P2, p2, R2, hz⟩ := R1.freeze rs q2
        exact k v H1 F2 P2 (fun _ => False) ((p1.trans p2).weak fun a z => z.elim id fun w => w.elim) R2 ⟨hz, fun _ z => z⟩ fun _ z => z.elim
    | ex c a δ1 => rw [q] at e; cases e
    | bad => rw [q] at e; cases e
  ex := fun σ H F L δ P c a δ' Q R e k => by
    simp only [dN] at e
    cases q : fa δ with
    | ok r δ1 => rw [q] at e; simp only at e; split at e <;> cases e
    | ex c1 a1 δ1 => rw [q] at e; cases e; exact h.ex σ H F L δ P _ _ _ Q R q k
    | bad => rw [q] at e; cases e
theorem mnb_nil : MnB K mg W tNil (evN []) where
  ok := fun σ H F L δ P ts δ' Q R e k => by
    cases e
    exact k [] H F P [] (Post.refl.weak fun a z => z.elim id fun ⟨p, hp, _⟩ => by cases hp) R .nil .nil (fun p hp => by cases hp) fun p hp => by cases hp
  ex := fun σ H F L δ P c a δ' Q R e k => by cases e
theorem mnb_cons (ha : MnN K mg W ta fn) (hr : MnB K mg W tr (evN fs)) : MnB K mg W (tCons ta tr) (evN (fn :: fs)) where
  ok := fun σ H F L δ P ts δ' Q R e k => by
    simp only [evN] at e
    rcases q : fn δ with (_ | ⟨t, δ1⟩) | e1
    · rw [q] at e; cases e
    · rw [q] at e
      simp only at e
      split at e
      · rename_i ok
        rcases q2 : evN fs δ1 with (_ | ⟨us, δ2⟩) | e2
        · rw [q2] at e; cases e
        · rw [q2] at e
          cases e
          refine ha.ok σ H F L δ P t δ1 _ R q fun v H1 F1 P1 Pr p1 R1 ow dj => ?_
          refine hr.ok σ H1 F1 L δ1 P1 us δ' _ R1 q2 fun vs H2 F2 P2 ps p2 R2 ows ap au al => ?_
          have prL := ow.okL ok
          have notW : ∀ a, Pr a → ¬ Wr L P1 a := fun a z w => dj a z w.1
          have newN : ∀ a, Pr a → ¬ (Wr L P1 a ∨ H1 a = none) := fun a z w => w.elim (notW a z) (ow.has z).1
          have p3 := p1.trans (p2.frame (Z := Pr))
          refine k (v :: vs) H2 F2 P2 (Pr :: ps) (p3.weak fun a z => ?_) R2 (.cons (ow.step p2.mono (fun a o h z => p2.keep a o h (notW a z)) fun a z => ?_) ows) (List.pairwise_cons.mpr ⟨fun q hq a z w => ?_, ap⟩) (fun p hp a z w => ?_) fun p hp a z => ?_
          · rcases z with z | ⟨p, hp, z⟩
            · exact .inl (.inl z)
            · rcases List.mem_cons.mp hp with rfl | hp
              · exact .inr z
              · exact .inl (.inr ⟨p, hp, z⟩)
          · cases q3 : F2 a with
            | none => rfl
            | some x =>
              rcases p2.newF a (by rw [q3]; simp) with w | w
              · exact absurd (ow.has z).2 w
              · exact absurd w (newN a z)
          · exact newN a z (p2.newW a (.inr ⟨q, hq, w⟩))
          · rcases List.mem_cons.mp hp with rfl | hp
            · exact newN a z (p2.newW a (.inl ⟨w, prL a z⟩))
            · exact au p hp a z w
          · rcases List.mem_cons.mp hp with rfl | hp
            · exact prL a z
            · exact al p hp a z
        · rw [q2] at e; cases e
      · cases e
    · rw [q] at e; cases e
  ex := fun σ H F L δ P c a δ' Q R e k => by
    simp only [evN] at e
    rcases q : fn δ with (_ | ⟨t, δ1⟩) | e1
    · rw [q] at e; cases e
    · rw [q] at e
      simp only at e
      split at e
      · rename_i ok
        rcases q2 : evN fs δ1 with (_ | ⟨us, δ2⟩) | e2
        · rw [q2] at e; cases e
        · rw [q2] at e; cases e
        · rw [q2] at e
          cases e
          refine ha.ok σ H F L δ P t δ1 _ R q fun v H1 F1 P1 Pr p1 R1 ow dj => ?_
          exact hr.ex σ H1 F1 L δ1 P1 _ _ _ _ R1 q2 fun cls d H2 F2 P2 p2 R2 x => k cls d H2 F2 P2 (((p1.trans (p2.frame (Z := Pr)))).weak fun a z => .inl z) R2 x
      · cases e
    · rw [q] at e
      cases e
      exact ha.ex σ H F L δ P _ _ _ _ R q k
/-- the tuple between, then the names -/
theorem mnb_asg {S : List Nat} {js : List Nat} {r : Bool} {T : Ends → L2.St → V → Hp → Prop} (hj : ∀ j ∈ js, j ∉ S) (hb : MnB K mg W tr (evN fs)) (hl : fs.length ≤ 1000) (hT : ∀ (D : Ends) σ H p vs, H p = some (.tup vs) → vs.length = js.length → gNames js (if r = true then vs.reverse else vs) σ H D.nx → T D σ (.ref p) H) :
    MnS K mg W S (fun D σ H => tTup tr σ H fun v H1 => T D σ v H1) (asgP r js fs) := ⟨fun σ H F L δ P D R h => by
  simp only [asgP] at h
  rcases q : evN fs δ with (_ | ⟨ts, δ1⟩) | ⟨c, a, δ1⟩
  · rw [q] at h; exact h.elim
  · rw [q] at h
    simp only at h
    cases q2 : setTs js (if r = true then ts.reverse else ts) δ1 with
    | none => rw [q2] at h; exact h.elim
    | some δ2 =>
      rw [q2] at h
      have lt : ts.length = fs.length := by
        have : ∀ (fs : List Nx) (δ δ1 : Env) (ts : List Dl.T), evN fs δ = .inl (some (ts, δ1)) → ts.length = fs.length := by
          intro fs
          induction fs with
          | nil => intro δ δ1 ts e; cases e; rfl
          | cons f fs ih =>
            intro δ δ1 ts e
            simp only [evN] at e
            rcases z : f δ with (_ | ⟨t, δ3⟩) | e3
            · rw [z] at e; cases e
            · rw [z] at e
              simp only at e
              split at e
              · rcases z2 : evN fs δ3 with (_ | ⟨us, δ4⟩) | e4
                · rw [z2] at e; cases e
                · rw [z2] at e; cases e; rw [List.length_cons, List.length_cons, ih _ _ _ z2]
                · rw [z2] at e; cases e
              · cases e
            · rw [z] at e; cases e
        exact this _ _ _ _ q
      have lj : js.length = ts.length := by
        have : ∀ (js : List Nat) (ts : List Dl.T) (δ δ' : Env), setTs js ts δ = some δ' → js.length = ts.length := by
          intro js
          induction js with
          | nil => intro ts δ δ' e; cases ts with | nil => rfl | cons _ _ => cases e
          | cons j js ih => intro ts δ δ' e; cases ts with | nil => cases e | cons t ts => rw [List.length_cons, List.length_cons, ih ts _ _ e]
        have := this _ _ _ _ q2
        cases r <;> simpa using this
      refine hb.ok σ H F L δ P ts δ1 _ R q fun vs H1 F1 P1 ps p1 R1 ows ap au al => ⟨by rw [ows.len1, lt]; exact szl (by omega), fun p np => ?_⟩
      have g : Grow F1 H1 F1 (upd H1 p (.tup vs)) := ⟨Same.refl _, same_upd np, fun a u e => by
        have := R1.sub a u e
        rw [upd_ne (ne_of_none this np)]; exact this, fun a z => .inl z⟩
      have R2 := R1.grow g
      have ows2 := ows.grow g
      refine hT D σ _ p vs upd_same (by rw [ows.len1, lj]) ?_
      have key : ∀ (ws : List V) (us : List Dl.T) (qs : List (Addr → Prop)), OwAll K mg F1 (upd H1 p (.tup vs)) L ws us qs → qs.Pairwise Apart → (∀ z, z ∈ qs → z ∈ ps) → setTs js us δ1 = some δ2 → gNames js ws σ (upd H1 p (.tup vs)) D.nx := by
        intro ws us qs o a1 sub e
        refine names_set hj R2 o a1 (fun z hz => au z (sub z hz)) e fun σ' P' ag R' w => ?_
        refine h σ' _ F1 P' ag ((p1.trans (g.post)).weak fun a z => ?_) R'
        rcases w a z.1 with w | ⟨q, hq, w⟩
        · exact .inl ⟨w, z.2⟩
        · exact .inr ⟨q, sub q hq, w⟩
      cases r with
      | false => exact key vs ts ps ows2 ap (fun _ z => z) q2
      | true => exact key vs.reverse ts.reverse ps.reverse ows2.reverse (List.pairwise_reverse.mpr (ap.imp fun {x y} z a h1 h2 => z a h2 h1)) (fun z hz => List.mem_reverse.mp hz) q2
  · rw [q] at h
    exact hb.ex σ H F L δ P c a δ1 _ R q fun cls d H1 F1 P1 p1 R1 x => h σ cls d H1 F1 P1 Agree.refl p1 R1 x⟩
end
/-! ### rules -/
structure DB (X : Cx) (W : WX) (es : List Expr) (t : TA) (fs : List Nx) : Prop where
  pe : PA X es t
  mn : MnB X.K X.mg W t (evN fs)
section
variable {X : Cx} {W : WX} {S : List Nat} {e : Expr} {es : List Expr} {te : TE} {tl : TA} {fa : Ex} {fn : Nx} {fs : List Nx} {js : List Nat} {ys : List Str} {ts : List Expr} {kk k2 n : Nat} {pos p p2 : Pos}
theorem dn_of (h : DE X W e te fa) : DN X W e te (dN fa) := ⟨h.pe, mn_dN h.mn⟩
theorem db_nil : DB X W [] tNil [] := ⟨pa_nil, mnb_nil⟩
theorem db_cons (h : DN X W e te fn) (hr : DB X W es tl fs) (hs : starEach (e :: es) X.env = (false, eval e X.env) :: starEach es X.env := by rfl) : DB X W (e :: es) (tCons te tl) (fn :: fs) := ⟨pa_cons h.pe hr.pe hs, mnb_cons h.mn hr.mn⟩
theorem ds_swpP (js : List Nat) (ys : List Str) (hc : X.calm = true) (hN : X.N.Nodup) (ha : DB X W es tl fs) (ok : SwOk X S js ys) (hf : fs.length ≤ 1000 := by exact Nat.le_of_ble_eq_true rfl) (hl : js.length = ys.length := by rfl) (hw : swappedStores [.Tuple ts kk p] (.Tuple es k2 p2) X.env = pure (some ys.reverse) := by rfl) (hs : swapsWithSole [.Tuple ts kk p] (.Tuple es k2 p2) pos.line X.env = pure false := by rfl) :
    DS X W S (.Assign [.Tuple ts kk p] (.Tuple es k2 p2) pos) (asgP true js fs) :=
  ⟨_, ps_swp hc hN (pe_tup ha.pe) ok hl hs hw, mnb_asg (T := fun D σ v H1 => ∃ a vs, v = .ref a ∧ SqT X.K H1 a vs ∧ vs.length = js.length ∧ gNames js vs.reverse σ H1 D.nx) ok.out ha.mn hf fun D σ H p vs hp hl q => ⟨p, vs, rfl, .inl (.inl hp), hl, q⟩⟩
theorem ds_asgUP (js : List Nat) (hc : X.calm = true) (ha : DB X W es tl fs) (hg : DGs X S ts (gNames js) (js.map .nm)) (hj : ∀ j ∈ js, j ∉ S) (hf : fs.length ≤ 1000 := by exact Nat.le_of_ble_eq_true rfl) (hs : swapsWithSole [.Tuple ts n p] (.Tuple es k2 p2) pos.line X.env = pure false := by rfl) (hw : swappedStores [.Tuple ts n p] (.Tuple es k2 p2) X.env = pure none := by rfl)
    (hn : (assignEach ts X.env).length = js.length := by rfl) (hst : (assignEach ts X.env).findIdx? (·.1) = none := by rfl) (h1 : (assignEach [.Tuple ts n p] X.env).map (·.2) = [assign (.Tuple ts n p) X.env] := by rfl) : DS X W S (.Assign [.Tuple ts n p] (.Tuple es k2 p2) pos) (asgP false js fs) :=
  ⟨_, ps_asg (pe_tup ha.pe) (pg_tl hc hg.pg hn hst) hs hw h1, mnb_asg (T := fun D σ v H1 => gTL X.K js.length (gNames js) v σ H1 D.nx) hj ha.mn hf fun D σ H p vs hp hl q => .inl ⟨_, _, rfl, .inl (.inl hp), hl, q⟩⟩
end
/-! ### as rewriting -/
def dN2 : Option (D × Env) → Option (T × Env) ⊕ (Str × D × Env)
  | some (x, δ2) => .inl (some (.d x, δ2))
  | none => .inl none
def dN1 : Re → Option (T × Env) ⊕ (Str × D × Env)
  | .ok r δ1 => dN2 (frz r δ1)
  | .ex c a δ1 => .inr (c, a, δ1)
  | .bad => .inl none
theorem q_dN {f : Ex} {δ : Env} : dN f δ = dN1 (f δ) := by
  unfold dN dN1
  rcases f δ with ⟨r, δ1⟩ | ⟨c, a, δ1⟩ | _
  · first
      | rfl
      | (simp only [dN2]; done)
      | (simp only [dN2]
         rcases frz r δ1 with _ | ⟨x, δ2⟩ <;> rfl)
  · rfl
  · rfl
theorem q_dN1 {r : Rs} {δ : Env} : dN1 (.ok r δ) = dN2 (frz r δ) := rfl
theorem q_dN2 {x : D} {δ : Env} : dN2 (some (x, δ)) = .inl (some (.d x, δ)) := rfl
def eN2 (t : T) : Option (List T × Env) ⊕ (Str × D × Env) → Option (List T × Env) ⊕ (Str × D × Env)
  | .inl (some (ts, δ2)) => .inl (some (t :: ts, δ2))
  | .inl none => .inl none
  | .inr e => .inr e
def eN1 (fs : List Nx) : Option (T × Env) ⊕ (Str × D × Env) → Option (List T × Env) ⊕ (Str × D × Env)
  | .inl (some (t, δ1)) => if okT (some t) = true then eN2 t (evN fs δ1) else .inl none
  | .inl none => .inl none
  | .inr e => .inr e
theorem q_evN0 {δ : Env} : evN [] δ = .inl (some ([], δ)) := rfl
theorem q_evNS {f : Nx} {fs : List Nx} {δ : Env} : evN (f :: fs) δ = eN1 fs (f δ) := by
  rw [evN]
  unfold eN1
  rcases f δ with (_ | ⟨t, δ1⟩) | e1
  · rfl
  · simp only []
    split
    · unfold eN2
      rcases evN fs δ1 with (_ | ⟨us, δ2⟩) | e2 <;> rfl
    · rfl
  · rfl
theorem q_eN1 {fs : List Nx} {t : T} {δ : Env} : eN1 fs (.inl (some (t, δ))) = if okT (some t) = true then eN2 t (evN fs δ) else .inl none := rfl
theorem q_eN2 {t : T} {ts : List T} {δ : Env} : eN2 t (.inl (some (ts, δ))) = .inl (some (t :: ts, δ)) := rfl
def aP2 : Option Env → Out
  | some δ2 => .nx δ2
  | none => .bad
def aP1 (r : Bool) (js : List Nat) : Option (List T × Env) ⊕ (Str × D × Env) → Out
  | .inl (some (ts, δ1)) => aP2 (setTs js (if r = true then ts.reverse else ts) δ1)
  | .inl none => .bad
  | .inr (c, a, δ1) => .ex c a δ1
theorem q_asgP {r : Bool} {js : List Nat} {fs : List Nx} {δ : Env} : asgP r js fs δ = aP1 r js (evN fs δ) := by
  unfold asgP aP1
  rcases evN fs δ with (_ | ⟨ts, δ1⟩) | e
  · rfl
  · first
      | rfl
      | (simp only [aP2]; done)
      | (simp only [aP2]
         rcases setTs js (if r = true then ts.reverse else ts) δ1 with _ | δ2 <;> rfl)
  · rfl
theorem q_aP1 {r : Bool} {js : List Nat} {ts : List T} {δ : Env} : aP1 r js (.inl (some (ts, δ))) = aP2 (setTs js (if r = true then ts.reverse else ts) δ) := rfl
theorem q_aP2 {δ : Env} : aP2 (some δ) = .nx δ := rfl
theorem q_set0 {δ : Env} : setTs [] [] δ = some δ := rfl
theorem q_setS {j : Nat} {js : List Nat} {t : T} {ts : List T} {δ : Env} : setTs (j :: js) (t :: ts) δ = setTs js ts (δ.set j (some t)) := rfl
end Dl

/-! DlAb: [x] * k as a new list of one's own. -/
namespace Dl
open PySem L2
/-- two values in, a new list out -/
def OpNM (K : PySem.W.Frag) (mg : Str → Option Value) (r : R2) (g : D → D → Option (List D)) : Prop :=
  ∀ F H v w x y l (Q : VK), Same F H → Vw K mg F H v x → Vw K mg F H w y → g x y = some l → (∀ p ws, H p = none → FzAll K mg F ws l → Q (.ref p) (upd H p (.lst ws))) → r v w H Q
def newM (g : D → D → Option (List D)) (fa fb : Ex) : Nx := fun δ => match fa δ with
  | .ok r1 δ1 => (match fb δ1 with
    | .ok r2 δ2 => (match toD r1 δ2, toD r2 δ2 with
      | some x, some y => .inl ((g x y).map fun l => (.own l, δ2))
      | _, _ => .inl none)
    | .ex c a δ2 => .inr (c, a, δ2)
    | .bad => .inl none)
  | .ex c a δ1 => .inr (c, a, δ1)
  | .bad => .inl none
section
variable {K : PySem.W.Frag} {mg : Str → Option Value} {W : WX} {ta tb : TE} {fa fb : Ex} {r : R2} {g : D → D → Option (List D)}
theorem mn_newM (ho : OpNM K mg r g) (ha : MnE K mg W ta fa) (hb : MnE K mg W tb fb) : MnN K mg W (tOp r ta tb) (newM g fa fb) where
  ok := fun σ H F L δ P t δ' Q R e k => by
    simp only [newM] at e
    cases q : fa δ with
    | ok r1 δ1 =>
      rw [q] at e
      simp only at e
      cases q2 : fb δ1 with
      | ok r2 δ2 =>
        rw [q2] at e
        simp only at e
        cases d1 : toD r1 δ2 with
        | none => rw [d1] at e; cases e
        | some x =>
          cases d2 : toD r2 δ2 with
          | none => rw [d1, d2] at e; cases e
          | some y =>
            rw [d1, d2] at e
            simp only [Sum.inl.injEq, Option.map_eq_some_iff, Prod.mk.injEq] at e
            obtain ⟨l, e1, rfl, rfl⟩ := e
            refine ha.ok σ H F L δ P r1 δ1 _ R q fun v H1 F1 P1 po1 R1 rs1 => ?_
            refine hb.ok σ H1 F1 L δ1 P1 r2 δ2 _ R1 q2 fun w H2 F2 P2 po2 R2 rs2 => ?_
            refine ho F2 H2 v w x y l Q R2.sub (R2.view (rs1.mono po2.mono) d1) (R2.view rs2 d2) e1 fun p ws n hz => ?_
            obtain ⟨a, b, c, d⟩ := R2.newL n hz
            exact k _ _ F2 P2 _ ((po1.trans po2).trans b) a c d
      | ex c a δ2 => rw [q2] at e; cases e
      | bad => rw [q2] at e; cases e
    | ex c a δ1 => rw [q] at e; cases e
    | bad => rw [q] at e; cases e
  ex := fun σ H F L δ P c a δ' Q R e k => by
    simp only [newM] at e
    cases q : fa δ with
    | ok r1 δ1 =>
      rw [q] at e
      simp only at e
      cases q2 : fb δ1 with
      | ok r2 δ2 => rw [q2] at e; simp only at e; split at e <;> cases e
      | ex c1 a1 δ2 =>
        rw [q2] at e
        cases e
        refine ha.ok σ H F L δ P r1 δ1 _ R q fun v H1 F1 P1 po1 R1 rs1 => ?_
        exact hb.ex σ H1 F1 L δ1 P1 _ _ _ _ R1 q2 fun cls d H2 F2 P2 po2 R2 x => k cls d H2 F2 P2 (po1.trans po2) R2 x
      | bad => rw [q2] at e; cases e
    | ex c1 a1 δ1 => rw [q] at e; cases e; exact ha.ex σ H F L δ P _ _ _ _ R q k
    | bad => rw [q] at e; cases e
end
/-- l * k -/
noncomputable def nMul : D → D → Option (List D)
  | .list l, .int k => cif (-(2 ^ 63) ≤ k ∧ k < 2 ^ 63 ∧ l.length * k.toNat ≤ 16777216) (some (List.replicate k.toNat l).flatten) (none)
  | _, _ => none
section
variable {K : PySem.W.Frag} {mg : Str → Option Value}
theorem oM_mul : OpNM K mg (rMul K) nMul := by
  intro F H v w x y z Q sub hx hy e k
  cases x with
  | list l =>
    cases y with
    | int j =>
      simp only [nMul, cif] at e
      split at e
      · rename_i h
        cases e
        obtain ⟨a, vs, rfl, h1, h2⟩ := hx
        exact .inr (.inl ⟨a, j, vs, rfl, vwI hy, h1, h.1, h.2.1, by rw [h2.len]; exact szl h.2.2, fun p n => k p _ n (h2.rep j.toNat)⟩)
      · cases e
    | _ => cases e
  | _ => cases e
end
theorem nmul_l {l : List D} {n : Nat} (h : l.length * n ≤ 16777216) (hn : n ≤ 1000000) : nMul (.list l) (.int (n : Int)) = some (List.replicate n l).flatten := by
  have e : ((n : Int)).toNat = n := Int.toNat_natCast n
  simp only [nMul, e]
  exact cif_pos ⟨by omega, by omega, h⟩
theorem p_newM {g : D → D → Option (List D)} {fa fb : Ex} {δ δ1 δ2 : Env} {x y : D} (h1 : fa δ = .ok (.d x) δ1) (h2 : fb δ1 = .ok (.d y) δ2) : newM g fa fb δ = .inl ((g x y).map fun l => (.own l, δ2)) := by
  simp only [newM, h1, h2, toD]
section
variable {X : Cx} {W : WX} {ta tb : TE} {fa fb : Ex}
theorem dn_mul (ha : DE X W a ta fa) (hb : DE X W b tb fb) : DN X W (.BinOp a .Mult b pos) (tOp (rMul X.K) ta tb) (newM nMul fa fb) := ⟨pe_op op_mulD ha.pe hb.pe, mn_newM oM_mul ha.mn hb.mn⟩
end
end Dl

/-! printed by gen.py from law_k40_papers_and_arguments_of_trees -/
namespace Law
open PySem L2 Dl
def top (i : Nat) : Stmt := PySem.Challenge.pw_nowayleft_k40_papers_and_arguments_of_tr.main.body.getD i (.Pass ⟨0, 0, 0, 0⟩)
abbrev s_is_integer : Stmt := top 7
abbrev s_is_tree : Stmt := top 11
abbrev s_check_tree : Stmt := top 12
abbrev s_needed_of : Stmt := top 13
abbrev s_needed : Stmt := top 14
abbrev s_worked : Stmt := top 15
abbrev s_deeds_for : Stmt := top 16
abbrev s_run_of : Stmt := top 18
abbrev s_run_deeds : Stmt := top 17
abbrev s_accept_deeds : Stmt := top 19
abbrev s_numbers_of : Stmt := top 21
abbrev s_numbered : Stmt := top 20
abbrev s_are_numbers : Stmt := top 23
abbrev s_accept_numbers : Stmt := top 22
abbrev s__law_start : Stmt := top 25
abbrev s__law_draw : Stmt := top 26
abbrev s__law_pick : Stmt := top 27
abbrev s__law_same : Stmt := top 28
abbrev s__law_word : Stmt := top 29
abbrev s__law_asked : Stmt := top 30
abbrev s__law_tree : Stmt := top 31
abbrev s__law_need : Stmt := top 32
abbrev s__law_deeds : Stmt := top 33
abbrev s__law_numbers : Stmt := top 34
abbrev s__law_depth : Stmt := top 35
abbrev s__law_whole : Stmt := top 36
abbrev s__law_done : Stmt := top 38
abbrev s__law_are_numbers : Stmt := top 39
abbrev s__law_deeds_due : Stmt := top 40
abbrev s__law_odd : Stmt := top 41
abbrev s__law_spoilt : Stmt := top 42
abbrev s__law_refused : Stmt := top 43
abbrev s_law : Stmt := top 44
/-- what the module's names mean -/
structure Txt (K : PySem.W.Frag) (mg : Str → Option Value) : Prop where
  n_ValueError : mg "ValueError" = none
  n_abs : mg "abs" = none
  n_all : mg "all" = none
  n_bool : mg "bool" = none
  n_int : mg "int" = none
  n_isinstance : mg "isinstance" = none
  n_len : mg "len" = none
  n_list : mg "list" = none
  n_max : mg "max" = none
  n_range : mg "range" = none
  n_repr : mg "repr" = none
  n_sorted : mg "sorted" = none
  n_str : mg "str" = none
  n_super : mg "super" = none
  n_tuple : mg "tuple" = none
  c_MAX_SPANS : ∃ t, mg "MAX_SPANS" = some (.int 60 t)
  c_MAX_DEPTH : ∃ t, mg "MAX_DEPTH" = some (.int 12 t)
  h_MemoryFault : ∃ M, mg "MemoryFault" = some (.ref M)
def errs : List Str := ["HeapError", "ArgumentError", "PaperError", "TooMany"]
noncomputable section
def b_is_integer : Sx := retS (andV (op1 (isT "int") (var 0)) (notV (op1 (isT "bool") (var 0))))
def m_is_integer : List T → Fo := fnM 1 1 [] b_is_integer
theorem u_is_integer {x0 : T} : m_is_integer [x0] = fnE [] (b_is_integer [some x0]) := e_fn rfl rfl
def b_is_tree (rc : List T → Fo) : Sx := seqS (ifS (truE (ofN (callN [] m_is_integer [var 0]))) (retS (cst (.bool true))) (nxS)) (seqS (ifS (orT (notT (truE (op1 (isT "tuple") (var 0)))) (orT (op2 gNe (opA gLen [var 0]) (cst (.int 2))) (op2 gEq (var 1) (cst (.int 0))))) (retS (cst (.bool false))) (nxS)) (retS (andV (ofN (callN [] rc [op2 gIx (var 0) (cst (.int 0)), op2 Dl.gSub (var 1) (cst (.int 1))])) (ofN (callN [] rc [op2 gIx (var 0) (cst (.int 1)), op2 Dl.gSub (var 1) (cst (.int 1))])))))
def r_is_tree : (List T → Fo) → List T → Fo := fun rc => fnM 2 2 [] (b_is_tree rc)
def m_is_tree : List T → Fo := recM r_is_tree 20
theorem u_is_tree {n : Nat} {x0 : T} {x1 : T} : recM r_is_tree (n + 1) [x0, x1] = fnE [] (b_is_tree (recM r_is_tree n) [some x0, some x1]) := show fnM 2 2 [] (b_is_tree (recM r_is_tree n)) [x0, x1] = _ from e_fn rfl rfl
def b_check_tree : Sx := ifS (notT (truE (ofN (callN [] m_is_tree [var 0, cst (.int 12)])))) (raiseS "ArgumentError" (cst (.str "tree"))) (nxS)
def m_check_tree : List T → Fo := fnM 1 1 [] b_check_tree
theorem u_check_tree {x0 : T} : m_check_tree [x0] = fnE [] (b_check_tree [some x0]) := e_fn rfl rfl
def b_needed_of (rc : List T → Fo) : Sx := seqS (ifS (notT (truE (op1 (isT "tuple") (var 0)))) (retS (cst (.int 1))) (nxS)) (seqS (asgR [2, 1] (tupE [ofN (callN [] rc [op2 gIx (var 0) (cst (.int 0))]), ofN (callN [] rc [op2 gIx (var 0) (cst (.int 1))])])) (retS (ifE (op2 gEq (var 1) (var 2)) (op2 gAdd (var 1) (cst (.int 1))) (opA gMax2 [var 1, var 2]))))
def r_needed_of : (List T → Fo) → List T → Fo := fun rc => fnM 1 3 [] (b_needed_of rc)
def m_needed_of : List T → Fo := recM r_needed_of 20
theorem u_needed_of {n : Nat} {x0 : T} : recM r_needed_of (n + 1) [x0] = fnE [] (b_needed_of (recM r_needed_of n) [some x0, none, none]) := show fnM 1 3 [] (b_needed_of (recM r_needed_of n)) [x0] = _ from e_fn rfl rfl
def b_needed : Sx := seqS (exprS (ofN (callN [] m_check_tree [var 0]))) (retN (callN [] m_needed_of [var 0]))
def m_needed : List T → Fo := fnM 1 1 [] b_needed
theorem u_needed {x0 : T} : m_needed [x0] = fnE [] (b_needed [some x0]) := e_fn rfl rfl
def b_worked (rc : List T → Fo) : Sx := seqS (ifS (notT (truE (op1 (isT "tuple") (var 0)))) (retN (newL [tupE [cst (.str "load"), op2 gIx (var 1) (cst (.int 0)), var 0]])) (nxS)) (seqS (asgU [.nm 2, .nm 3] (var 0)) (seqS (ifS (op2 gGe (ofN (callN [] m_needed_of [var 2])) (ofN (callN [] m_needed_of [var 3]))) (seqS (asgS 4 (op2 gAdd (ofN (callN [] rc [var 2, var 1])) (ofN (callN [] rc [var 3, slE (var 1) (some (cst (.int 1))) none])))) (retS (op2 gAdd (var 4) (lstE [tupE [cst (.str "join"), op2 gIx (var 1) (cst (.int 0)), op2 gIx (var 1) (cst (.int 0)), op2 gIx (var 1) (cst (.int 1))]])))) (nxS)) (seqS (asgS 4 (op2 gAdd (ofN (callN [] rc [var 3, var 1])) (ofN (callN [] rc [var 2, slE (var 1) (some (cst (.int 1))) none])))) (retS (op2 gAdd (var 4) (lstE [tupE [cst (.str "join"), op2 gIx (var 1) (cst (.int 0)), op2 gIx (var 1) (cst (.int 1)), op2 gIx (var 1) (cst (.int 0))]]))))))
def r_worked : (List T → Fo) → List T → Fo := fun rc => fnM 2 5 [] (b_worked rc)
def m_worked : List T → Fo := recM r_worked 20
theorem u_worked {n : Nat} {x0 : T} {x1 : T} : recM r_worked (n + 1) [x0, x1] = fnE [] (b_worked (recM r_worked n) [some x0, some x1, none, none, none]) := show fnM 2 5 [] (b_worked (recM r_worked n)) [x0, x1] = _ from e_fn rfl rfl
def b_deeds_for : Sx := seqS (exprS (ofN (callN [] m_check_tree [var 0]))) (retS (opA gTuple [ofN (callN [] m_worked [var 0, op1 (gRng1 .list) (ofN (callN [] m_needed_of [var 0]))])]))
def m_deeds_for : List T → Fo := fnM 1 1 [] b_deeds_for
theorem u_deeds_for {x0 : T} : m_deeds_for [x0] = fnE [] (b_deeds_for [some x0]) := e_fn rfl rfl
def f1_run_of : Sx := seqS (ifS (orT (notT (truE (op1 (isT "tuple") (var 3)))) (orT (op2 gNotIn (opA gLen [var 3]) (tupE [cst (.int 3), cst (.int 4)])) (notT (truE (opA gAll [ofN (lcN 6 [5] (.nm 5) (ixE (slE (var 3) (some (cst (.int 1))) none)) none (ofN (callN [] m_is_integer [var 5])))]))))) (retS (cst .none)) (nxS)) (seqS (ifS (notT (chainE (cst (.int 0)) [(gLe, op2 gIx (var 3) (cst (.int 1))), (gLt, var 0)])) (retS (cst .none)) (nxS)) (ifS (andT (op2 gEq (op2 gIx (var 3) (cst (.int 0))) (cst (.str "load"))) (op2 gEq (opA gLen [var 3]) (cst (.int 3)))) (setIx 2 (op2 gIx (var 3) (cst (.int 2))) (op2 gIx (var 3) (cst (.int 1)))) (ifS (andT (op2 gEq (op2 gIx (var 3) (cst (.int 0))) (cst (.str "join"))) (andT (op2 gEq (opA gLen [var 3]) (cst (.int 4))) (andT (chainE (cst (.int 0)) [(gLe, op2 gIx (var 3) (cst (.int 2))), (gLt, var 0)]) (chainE (cst (.int 0)) [(gLe, op2 gIx (var 3) (cst (.int 3))), (gLt, var 0)])))) (seqS (asgS 4 (tupE [op2 gIx (var 2) (op2 gIx (var 3) (cst (.int 2))), op2 gIx (var 2) (op2 gIx (var 3) (cst (.int 3)))])) (seqS (ifS (orT (op2 gIn (cst .none) (var 4)) (notT (truE (ofN (callN [] m_is_tree [var 4, cst (.int 12)]))))) (retS (cst .none)) (nxS)) (setIx 2 (var 4) (op2 gIx (var 3) (cst (.int 1)))))) (retS (cst .none)))))
def b_run_of : Sx := seqS (ifS (notT (truE (op1 (isT "tuple") (var 1)))) (retS (cst .none)) (nxS)) (seqS (asgN 2 (newM nMul (lstE [cst .none]) (var 0))) (seqS (forS (.nm 3) (ixE (var 1)) f1_run_of) (retS (var 2))))
def m_run_of : List T → Fo := fnM 2 6 [] b_run_of
theorem u_run_of {x0 : T} {x1 : T} : m_run_of [x0, x1] = fnE [] (b_run_of [some x0, some x1, none, none, none, none]) := e_fn rfl rfl
def b_run_deeds : Sx := seqS (ifS (orT (notT (truE (ofN (callN [] m_is_integer [var 0])))) (notT (chainE (cst (.int 0)) [(gLe, var 0), (gLe, cst (.int 60))]))) (raiseS "ArgumentError" (cst (.str "many"))) (nxS)) (seqS (asgS 2 (ofN (callN [] m_run_of [var 0, var 1]))) (seqS (ifS (op2 gIsN (var 2) (cst .none)) (raiseS "ArgumentError" (cst (.str "deeds"))) (nxS)) (retS (opA gTuple [var 2]))))
def m_run_deeds : List T → Fo := fnM 2 3 [] b_run_deeds
theorem u_run_deeds {x0 : T} {x1 : T} : m_run_deeds [x0, x1] = fnE [] (b_run_deeds [some x0, some x1, none]) := e_fn rfl rfl
def b_accept_deeds : Sx := seqS (exprS (ofN (callN [] m_check_tree [var 0]))) (seqS (ifS (orT (notT (truE (ofN (callN [] m_is_integer [var 1])))) (notT (chainE (cst (.int 0)) [(gLe, var 1), (gLe, cst (.int 60))]))) (raiseS "ArgumentError" (cst (.str "many"))) (nxS)) (seqS (asgS 3 (ofN (callN [] m_run_of [var 1, var 2]))) (seqS (ifS (op2 gIsN (var 3) (cst .none)) (raiseS "PaperError" (cst (.str "deeds"))) (nxS)) (ifS (orT (notT (truE (var 3))) (op2 gNe (op2 gIx (var 3) (cst (.int 0))) (var 0))) (raiseS "PaperError" (cst (.str "tree"))) (nxS)))))
def m_accept_deeds : List T → Fo := fnM 3 4 [] b_accept_deeds
theorem u_accept_deeds {x0 : T} {x1 : T} {x2 : T} : m_accept_deeds [x0, x1, x2] = fnE [] (b_accept_deeds [some x0, some x1, some x2, none]) := e_fn rfl rfl
def b_numbers_of (rc : List T → Fo) : Sx := seqS (ifS (notT (truE (op1 (isT "tuple") (var 0)))) (retS (cst (.int 1))) (nxS)) (retS (tupE [ofN (callN [] m_needed_of [var 0]), ofN (callN [] rc [op2 gIx (var 0) (cst (.int 0))]), ofN (callN [] rc [op2 gIx (var 0) (cst (.int 1))])]))
def r_numbers_of : (List T → Fo) → List T → Fo := fun rc => fnM 1 1 [] (b_numbers_of rc)
def m_numbers_of : List T → Fo := recM r_numbers_of 20
theorem u_numbers_of {n : Nat} {x0 : T} : recM r_numbers_of (n + 1) [x0] = fnE [] (b_numbers_of (recM r_numbers_of n) [some x0]) := show fnM 1 1 [] (b_numbers_of (recM r_numbers_of n)) [x0] = _ from e_fn rfl rfl
def b_numbered : Sx := seqS (exprS (ofN (callN [] m_check_tree [var 0]))) (retN (callN [] m_numbers_of [var 0]))
def m_numbered : List T → Fo := fnM 1 1 [] b_numbered
theorem u_numbered {x0 : T} : m_numbered [x0] = fnE [] (b_numbered [some x0]) := e_fn rfl rfl
def b_are_numbers (rc : List T → Fo) : Sx := seqS (ifS (notT (truE (op1 (isT "tuple") (var 0)))) (retS (andV (ofN (callN [] m_is_integer [var 1])) (op2 gEq (var 1) (cst (.int 1))))) (nxS)) (seqS (ifS (orT (notT (truE (op1 (isT "tuple") (var 1)))) (orT (op2 gNe (opA gLen [var 1]) (cst (.int 3))) (notT (truE (ofN (callN [] m_is_integer [op2 gIx (var 1) (cst (.int 0))])))))) (retS (cst (.bool false))) (nxS)) (seqS (ifS (orT (notT (truE (ofN (callN [] rc [op2 gIx (var 0) (cst (.int 0)), op2 gIx (var 1) (cst (.int 1))])))) (notT (truE (ofN (callN [] rc [op2 gIx (var 0) (cst (.int 1)), op2 gIx (var 1) (cst (.int 2))]))))) (retS (cst (.bool false))) (nxS)) (seqS (asgU [.nm 2, .nm 3] (ofN (lcN 5 [4] (.nm 4) (ixE (slE (var 1) (some (cst (.int 1))) none)) none (ifE (truE (ofN (callN [] m_is_integer [var 4]))) (var 4) (op2 gIx (var 4) (cst (.int 0))))))) (retS (op2 gEq (op2 gIx (var 1) (cst (.int 0))) (ifE (op2 gEq (var 2) (var 3)) (op2 gAdd (var 2) (cst (.int 1))) (opA gMax2 [var 2, var 3])))))))
def r_are_numbers : (List T → Fo) → List T → Fo := fun rc => fnM 2 5 [] (b_are_numbers rc)
def m_are_numbers : List T → Fo := recM r_are_numbers 20
theorem u_are_numbers {n : Nat} {x0 : T} {x1 : T} : recM r_are_numbers (n + 1) [x0, x1] = fnE [] (b_are_numbers (recM r_are_numbers n) [some x0, some x1, none, none, none]) := show fnM 2 5 [] (b_are_numbers (recM r_are_numbers n)) [x0, x1] = _ from e_fn rfl rfl
def b_accept_numbers : Sx := seqS (exprS (ofN (callN [] m_check_tree [var 0]))) (ifS (notT (truE (ofN (callN [] m_are_numbers [var 0, var 1])))) (raiseS "PaperError" (cst (.str "numbers"))) (nxS))
def m_accept_numbers : List T → Fo := fnM 2 2 [] b_accept_numbers
theorem u_accept_numbers {x0 : T} {x1 : T} : m_accept_numbers [x0, x1] = fnE [] (b_accept_numbers [some x0, some x1]) := e_fn rfl rfl
def b__law_draw : Sx := seqS (ifS (andT (op2 gEq (op2 gIx (var 0) (cst (.int 1))) (cst (.int 0))) (op2 gGe (op2 gIx (var 0) (cst (.int 2))) (opA gLen [op2 gIx (var 0) (cst (.int 0))]))) (seqS (setIx 0 (op2 gMod (opA gInt [op2 gAdd (op2 gMul (op2 gIx (var 0) (cst (.int 3))) (cst (.int 48271))) (cst (.int 69621))]) (cst (.int 2147483629))) (cst (.int 3))) (retS (op2 gMod (opA gInt [op2 gFdiv (op2 gIx (var 0) (cst (.int 3))) (cst (.int 13))]) (var 1)))) (nxS)) (seqS (ifS (op2 gEq (op2 gIx (var 0) (cst (.int 1))) (cst (.int 0))) (seqS (setIx 0 (opA gAbs [op2 gIx (op2 gIx (var 0) (cst (.int 0))) (op2 gIx (var 0) (cst (.int 2)))]) (cst (.int 1))) (setIx 0 (op2 gAdd (op2 gIx (var 0) (cst (.int 2))) (cst (.int 1))) (cst (.int 2)))) (nxS)) (seqS (asgS 2 (op2 gMod (opA gInt [op2 gIx (var 0) (cst (.int 1))]) (var 1))) (seqS (setIx 0 (op2 gFdiv (op2 gIx (var 0) (cst (.int 1))) (var 1)) (cst (.int 1))) (retS (var 2)))))
def m__law_draw : List T → Fo := fnM 2 3 [0] b__law_draw
theorem u__law_draw {x0 : T} {x1 : T} : m__law_draw [x0, x1] = fnE [0] (b__law_draw [some x0, some x1, none]) := e_fn rfl rfl
def b__law_pick : Sx := retS (op2 gIx (var 1) (ofN (callN [0] m__law_draw [var 0, opA gLen [var 1]])))
def m__law_pick : List T → Fo := fnM 2 2 [0] b__law_pick
theorem u__law_pick {x0 : T} {x1 : T} : m__law_pick [x0, x1] = fnE [0] (b__law_pick [some x0, some x1]) := e_fn rfl rfl
def b__law_same : Sx := retS (andV (op2 gEq (var 0) (var 1)) (op2 gEq (opA gRepr [var 0]) (opA gRepr [var 1])))
def m__law_same : List T → Fo := fnM 2 2 [] b__law_same
theorem u__law_same {x0 : T} {x1 : T} : m__law_same [x0, x1] = fnE [] (b__law_same [some x0, some x1]) := e_fn rfl rfl
def b__law_word (a dd : Addr) (cl : Str) : Sx := seqS (asgS 1 (lstE [cst (.str "heap "), cst (.str "argument "), cst (.str "paper "), cst (.str "many ")])) (seqS (asgS 2 (lstE [isXE errs a dd cl 0 "HeapError", isXE errs a dd cl 0 "ArgumentError", isXE errs a dd cl 0 "PaperError", isXE errs a dd cl 0 "TooMany"])) (retS (ifE (andT (op2 gEq (meE "list" mCount (var 2) [cst (.bool true)]) (cst (.int 1))) (truE (isXE errs a dd cl 0 "ValueError"))) (op2 gAdd (op2 gIx (var 1) (meE "list" mIndex (var 2) [cst (.bool true)])) (atXE a dd cl 0 "reason")) (cst (.str "other")))))
def m__law_word (a dd : Addr) (cl : Str) : List T → Fo := fnM 1 3 [] (b__law_word a dd cl)
theorem u__law_word {a dd : Addr} {cl : Str} {x0 : T} : m__law_word a dd cl [x0] = fnE [] (b__law_word a dd cl [some x0, none, none]) := e_fn rfl rfl
def tab : Tab := fun x => if x = "needed" then some (1, [], m_needed) else if x = "deeds_for" then some (1, [], m_deeds_for) else if x = "numbered" then some (1, [], m_numbered) else if x = "accept_deeds" then some (3, [], m_accept_deeds) else if x = "accept_numbers" then some (2, [], m_accept_numbers) else if x = "run_deeds" then some (2, [], m_run_deeds) else none
def b__law_asked : Sx := tryS errs 2 (seqS (ifS (op2 gLt (opA gLen [var 1]) (cst (.int 3))) (retS (ifE (op2 gEq (opA gLen [var 1]) (cst (.int 1))) (lstE [ofN (callV 0 tab [op2 gIx (var 1) (cst (.int 0))])]) (lstE [ofN (callV 0 tab [op2 gIx (var 1) (cst (.int 0)), op2 gIx (var 1) (cst (.int 1))])]))) (nxS)) (seqS (ifS (op2 gLt (opA gLen [var 1]) (cst (.int 5))) (retS (ifE (op2 gEq (opA gLen [var 1]) (cst (.int 3))) (lstE [ofN (callV 0 tab [op2 gIx (var 1) (cst (.int 0)), op2 gIx (var 1) (cst (.int 1)), op2 gIx (var 1) (cst (.int 2))])]) (lstE [ofN (callV 0 tab [op2 gIx (var 1) (cst (.int 0)), op2 gIx (var 1) (cst (.int 1)), op2 gIx (var 1) (cst (.int 2)), op2 gIx (var 1) (cst (.int 3))])]))) (nxS)) (retN (newL [ofN (callV 0 tab [op2 gIx (var 1) (cst (.int 0)), op2 gIx (var 1) (cst (.int 1)), op2 gIx (var 1) (cst (.int 2)), op2 gIx (var 1) (cst (.int 3)), op2 gIx (var 1) (cst (.int 4))])])))) (fun a dd cl => retN (callN [] (m__law_word a dd cl) [var 2]))
def m__law_asked : List T → Fo := fnM 2 3 [] b__law_asked
theorem u__law_asked {x0 : T} {x1 : T} : m__law_asked [x0, x1] = fnE [] (b__law_asked [some x0, some x1, none]) := e_fn rfl rfl
theorem tab_needed : tab "needed" = some (1, [], m_needed) := if_pos rfl
theorem tab_deeds_for : tab "deeds_for" = some (1, [], m_deeds_for) := (if_neg (by decide)).trans (if_pos rfl)
theorem tab_numbered : tab "numbered" = some (1, [], m_numbered) := (if_neg (by decide)).trans ((if_neg (by decide)).trans (if_pos rfl))
theorem tab_accept_deeds : tab "accept_deeds" = some (3, [], m_accept_deeds) := (if_neg (by decide)).trans ((if_neg (by decide)).trans ((if_neg (by decide)).trans (if_pos rfl)))
theorem tab_accept_numbers : tab "accept_numbers" = some (2, [], m_accept_numbers) := (if_neg (by decide)).trans ((if_neg (by decide)).trans ((if_neg (by decide)).trans ((if_neg (by decide)).trans (if_pos rfl))))
theorem tab_run_deeds : tab "run_deeds" = some (2, [], m_run_deeds) := (if_neg (by decide)).trans ((if_neg (by decide)).trans ((if_neg (by decide)).trans ((if_neg (by decide)).trans ((if_neg (by decide)).trans (if_pos rfl)))))
def b__law_tree (rc : List T → Fo) : Sx := seqS (ifS (orT (op2 gEq (var 1) (cst (.int 0))) (andT (notT (truE (var 2))) (op2 gEq (ofN (callN [0] m__law_draw [var 0, cst (.int 4)])) (cst (.int 0))))) (retN (callN [0] m__law_pick [var 0, lstE [cst (.int 0), cst (.int 1), op1 gNeg (cst (.int 5)), op2 gPow (cst (.int 10)) (cst (.int 30)), ofN (callN [0] m__law_draw [var 0, cst (.int 100)])]])) (nxS)) (seqS (asgS 3 (ofN (callN [0] m__law_pick [var 0, lstE [op2 Dl.gSub (var 1) (cst (.int 1)), op2 Dl.gSub (var 1) (cst (.int 1)), cst (.int 0), ofN (callN [0] m__law_draw [var 0, var 1])]]))) (seqS (asgS 4 (tupE [ofN (callN [0] rc [var 0, op2 Dl.gSub (var 1) (cst (.int 1)), var 2]), ofN (callN [0] rc [var 0, var 3, var 2])])) (retS (ifE (op2 gEq (ofN (callN [0] m__law_draw [var 0, cst (.int 2)])) (cst (.int 0))) (var 4) (op1 gRev (var 4))))))
def r__law_tree : (List T → Fo) → List T → Fo := fun rc => fnM 3 5 [0] (b__law_tree rc)
def m__law_tree : List T → Fo := recM r__law_tree 20
theorem u__law_tree {n : Nat} {x0 : T} {x1 : T} {x2 : T} : recM r__law_tree (n + 1) [x0, x1, x2] = fnE [0] (b__law_tree (recM r__law_tree n) [some x0, some x1, some x2, none, none]) := show fnM 3 5 [0] (b__law_tree (recM r__law_tree n)) [x0, x1, x2] = _ from e_fn rfl rfl
def b__law_need (rc : List T → Fo) : Sx := seqS (ifS (notT (truE (op1 (isT "tuple") (var 0)))) (retS (cst (.int 1))) (nxS)) (seqS (asgU [.nm 1, .nm 2] (ofN (newA nSort [lstE [ofN (callN [] rc [op2 gIx (var 0) (cst (.int 0))]), ofN (callN [] rc [op2 gIx (var 0) (cst (.int 1))])]]))) (retS (ifE (op2 gLt (var 1) (var 2)) (var 2) (op2 gAdd (var 1) (cst (.int 1))))))
def r__law_need : (List T → Fo) → List T → Fo := fun rc => fnM 1 3 [] (b__law_need rc)
def m__law_need : List T → Fo := recM r__law_need 20
theorem u__law_need {n : Nat} {x0 : T} : recM r__law_need (n + 1) [x0] = fnE [] (b__law_need (recM r__law_need n) [some x0, none, none]) := show fnM 1 3 [] (b__law_need (recM r__law_need n)) [x0] = _ from e_fn rfl rfl
def b__law_deeds (rc : List T → Fo) : Sx := seqS (ifS (notT (truE (op1 (isT "tuple") (var 0)))) (retS (tupE [tupE [cst (.str "load"), var 1, var 0]])) (nxS)) (seqS (ifS (op2 gLt (ofN (callN [] m__law_need [op2 gIx (var 0) (cst (.int 0))])) (ofN (callN [] m__law_need [op2 gIx (var 0) (cst (.int 1))]))) (retS (op2 gAdd (op2 gAdd (ofN (callN [] rc [op2 gIx (var 0) (cst (.int 1)), var 1])) (ofN (callN [] rc [op2 gIx (var 0) (cst (.int 0)), op2 gAdd (var 1) (cst (.int 1))]))) (tupE [tupE [cst (.str "join"), var 1, op2 gAdd (var 1) (cst (.int 1)), var 1]]))) (nxS)) (retS (op2 gAdd (op2 gAdd (ofN (callN [] rc [op2 gIx (var 0) (cst (.int 0)), var 1])) (ofN (callN [] rc [op2 gIx (var 0) (cst (.int 1)), op2 gAdd (var 1) (cst (.int 1))]))) (tupE [tupE [cst (.str "join"), var 1, var 1, op2 gAdd (var 1) (cst (.int 1))]]))))
def r__law_deeds : (List T → Fo) → List T → Fo := fun rc => fnM 2 2 [] (b__law_deeds rc)
def m__law_deeds : List T → Fo := recM r__law_deeds 20
theorem u__law_deeds {n : Nat} {x0 : T} {x1 : T} : recM r__law_deeds (n + 1) [x0, x1] = fnE [] (b__law_deeds (recM r__law_deeds n) [some x0, some x1]) := show fnM 2 2 [] (b__law_deeds (recM r__law_deeds n)) [x0, x1] = _ from e_fn rfl rfl
def b__law_numbers (rc : List T → Fo) : Sx := retS (ifE (truE (op1 (isT "tuple") (var 0))) (tupE [ofN (callN [] m__law_need [var 0]), ofN (callN [] rc [op2 gIx (var 0) (cst (.int 0))]), ofN (callN [] rc [op2 gIx (var 0) (cst (.int 1))])]) (cst (.int 1)))
def r__law_numbers : (List T → Fo) → List T → Fo := fun rc => fnM 1 1 [] (b__law_numbers rc)
def m__law_numbers : List T → Fo := recM r__law_numbers 20
theorem u__law_numbers {n : Nat} {x0 : T} : recM r__law_numbers (n + 1) [x0] = fnE [] (b__law_numbers (recM r__law_numbers n) [some x0]) := show fnM 1 1 [] (b__law_numbers (recM r__law_numbers n)) [x0] = _ from e_fn rfl rfl
def b__law_depth (rc : List T → Fo) : Sx := retS (ifE (truE (op1 (isT "tuple") (var 0))) (op2 gAdd (cst (.int 1)) (opA gMaxL [lstE [ofN (callN [] rc [op2 gIx (var 0) (cst (.int 0))]), ofN (callN [] rc [op2 gIx (var 0) (cst (.int 1))])]])) (cst (.int 0)))
def r__law_depth : (List T → Fo) → List T → Fo := fun rc => fnM 1 1 [] (b__law_depth rc)
def m__law_depth : List T → Fo := recM r__law_depth 20
theorem u__law_depth {n : Nat} {x0 : T} : recM r__law_depth (n + 1) [x0] = fnE [] (b__law_depth (recM r__law_depth n) [some x0]) := show fnM 1 1 [] (b__law_depth (recM r__law_depth n)) [x0] = _ from e_fn rfl rfl
def b__law_whole : Sx := retS (andV (op1 (isT "int") (var 0)) (notV (op1 (isT "bool") (var 0))))
def m__law_whole : List T → Fo := fnM 1 1 [] b__law_whole
theorem u__law_whole {x0 : T} : m__law_whole [x0] = fnE [] (b__law_whole [some x0]) := e_fn rfl rfl
def f1__law_done : Sx := seqS (ifS (orT (notT (truE (op1 (isT "tuple") (var 3)))) (orT (notT (truE (var 3))) (truE (ofN (lcN 7 [6] (.nm 6) (ixE (slE (var 3) (some (cst (.int 1))) none)) (some (notT (truE (ofN (callN [] m__law_whole [var 6]))))) (var 6)))))) (retS (cst .none)) (nxS)) (ifS (andT (op2 gEq (opA gLen [var 3]) (cst (.int 3))) (andT (op2 gEq (op2 gIx (var 3) (cst (.int 0))) (cst (.str "load"))) (chainE (cst (.int 0)) [(gLe, op2 gIx (var 3) (cst (.int 1))), (gLt, var 0)]))) (setIx 2 (op2 gIx (var 3) (cst (.int 2))) (op2 gIx (var 3) (cst (.int 1)))) (ifS (andT (op2 gEq (opA gLen [var 3]) (cst (.int 4))) (andT (op2 gEq (op2 gIx (var 3) (cst (.int 0))) (cst (.str "join"))) (notT (truE (ofN (lcN 7 [6] (.nm 6) (ixE (slE (var 3) (some (cst (.int 1))) none)) (some (notT (chainE (cst (.int 0)) [(gLe, var 6), (gLt, var 0)]))) (var 6))))))) (seqS (asgR [5, 4] (tupE [op2 gIx (var 2) (op2 gIx (var 3) (cst (.int 2))), op2 gIx (var 2) (op2 gIx (var 3) (cst (.int 3)))])) (seqS (ifS (orT (op2 gIsN (var 4) (cst .none)) (orT (op2 gIsN (var 5) (cst .none)) (op2 gGt (ofN (callN [] m__law_depth [tupE [var 4, var 5]])) (cst (.int 12))))) (retS (cst .none)) (nxS)) (setIx 2 (tupE [var 4, var 5]) (op2 gIx (var 3) (cst (.int 1)))))) (retS (cst .none))))
def b__law_done : Sx := seqS (ifS (notT (truE (op1 (isT "tuple") (var 1)))) (retS (cst .none)) (nxS)) (seqS (asgN 2 (newM nMul (lstE [cst .none]) (var 0))) (seqS (forS (.nm 3) (ixE (var 1)) f1__law_done) (retS (opA gTuple [var 2]))))
def m__law_done : List T → Fo := fnM 2 7 [] b__law_done
theorem u__law_done {x0 : T} {x1 : T} : m__law_done [x0, x1] = fnE [] (b__law_done [some x0, some x1, none, none, none, none, none]) := e_fn rfl rfl
def b__law_are_numbers : Sx := seqS (asgS 2 (ofN (callN [] m__law_numbers [var 0]))) (retS (andV (op2 gEq (var 1) (var 2)) (op2 gEq (opA gRepr [var 1]) (opA gRepr [var 2]))))
def m__law_are_numbers : List T → Fo := fnM 2 3 [] b__law_are_numbers
theorem u__law_are_numbers {x0 : T} {x1 : T} : m__law_are_numbers [x0, x1] = fnE [] (b__law_are_numbers [some x0, some x1, none]) := e_fn rfl rfl
def b__law_deeds_due : Sx := seqS (asgS 3 (ofN (callN [] m__law_done [var 1, var 2]))) (seqS (ifS (op2 gIsN (var 3) (cst .none)) (retS (cst (.str "paper deeds"))) (nxS)) (retS (ifE (andT (truE (var 3)) (andT (op2 gEq (op2 gIx (var 3) (cst (.int 0))) (var 0)) (op2 gEq (opA gRepr [op2 gIx (var 3) (cst (.int 0))]) (opA gRepr [var 0])))) (lstE [cst .none]) (cst (.str "paper tree")))))
def m__law_deeds_due : List T → Fo := fnM 3 4 [] b__law_deeds_due
theorem u__law_deeds_due {x0 : T} {x1 : T} {x2 : T} : m__law_deeds_due [x0, x1, x2] = fnE [] (b__law_deeds_due [some x0, some x1, some x2, none]) := e_fn rfl rfl
def b__law_odd : Sx := seqS (asgS 1 (lstE [cst .none, cst (.bool true), cst (.str "load"), cst (.str "join"), op1 gNeg (cst (.int 1)), cst (.int 0), cst (.int 1), cst (.int 2), cst (.int 61), tupE [], tupE [cst (.str "load"), cst (.int 0), cst (.int 1)], tupE [cst (.str "join"), cst (.int 0), cst (.int 0), cst (.int 0)], tupE [cst (.str "join"), cst (.int 0), cst (.int 0), cst (.int 1)]])) (retN (callN [0] m__law_pick [var 0, op2 gAdd (var 1) (lstE [tupE [cst (.str "load"), cst (.int 0), cst .none], tupE [cst (.str "load"), cst (.int 0)], tupE [cst (.int 0), cst (.int 0), cst (.int 0)], tupE [cst (.str "load"), cst (.int 9), cst (.int 5)], tupE [cst (.str "load"), cst (.int 0), cst (.bool true)]])]))
def m__law_odd : List T → Fo := fnM 1 2 [0] b__law_odd
theorem u__law_odd {x0 : T} : m__law_odd [x0] = fnE [0] (b__law_odd [some x0, none]) := e_fn rfl rfl
def b__law_spoilt (rc : List T → Fo) : Sx := seqS (ifS (orT (notT (truE (op1 (isT "tuple") (var 1)))) (orT (notT (truE (var 1))) (op2 gEq (ofN (callN [0] m__law_draw [var 0, cst (.int 8)])) (cst (.int 0))))) (retS (ifE (andT (truE (ofN (callN [] m__law_whole [var 1]))) (op2 gEq (ofN (callN [0] m__law_draw [var 0, cst (.int 2)])) (cst (.int 0)))) (op2 gAdd (var 1) (ofN (callN [0] m__law_pick [var 0, lstE [cst (.int 1), op1 gNeg (cst (.int 1))]]))) (ofN (callN [0] m__law_odd [var 0])))) (nxS)) (seqS (asgS 2 (ofN (callN [0] m__law_draw [var 0, opA gLen [var 1]]))) (seqS (asgS 3 (op2 gAdd (op2 gAdd (slE (var 1) none (some (var 2))) (tupE [ofN (callN [0] rc [var 0, op2 gIx (var 1) (var 2)])])) (slE (var 1) (some (op2 gAdd (var 2) (cst (.int 1)))) none))) (retN (callN [0] m__law_pick [var 0, lstE [op2 gAdd (slE (var 1) none (some (var 2))) (slE (var 1) (some (op2 gAdd (var 2) (cst (.int 1)))) none), op2 gAdd (var 1) (slE (var 1) (some (var 2)) (some (op2 gAdd (var 2) (cst (.int 1))))), op1 gRev (var 1), op2 gAdd (op2 gAdd (slE (var 1) none (some (var 2))) (tupE [ofN (callN [0] m__law_odd [var 0])])) (slE (var 1) (some (op2 gAdd (var 2) (cst (.int 1)))) none), var 3, var 3, var 3, var 3]]))))
def r__law_spoilt : (List T → Fo) → List T → Fo := fun rc => fnM 2 4 [0] (b__law_spoilt rc)
def m__law_spoilt : List T → Fo := recM r__law_spoilt 20
theorem u__law_spoilt {n : Nat} {x0 : T} {x1 : T} : recM r__law_spoilt (n + 1) [x0, x1] = fnE [0] (b__law_spoilt (recM r__law_spoilt n) [some x0, some x1, none, none]) := show fnM 2 4 [0] (b__law_spoilt (recM r__law_spoilt n)) [x0, x1] = _ from e_fn rfl rfl
def f1__law_refused : Sx := asgS 2 (ifE (op2 gEq (ofN (callN [0] m__law_draw [var 0, cst (.int 2)])) (cst (.int 0))) (tupE [var 2, cst (.int 2)]) (tupE [cst (.int 2), var 2]))
def b__law_refused : Sx := seqS (asgS 2 (cst (.int 1))) (seqS (forS (.nm 3) (ixR1 (cst (.int 13))) f1__law_refused) (seqS (asgS 4 (ifE (truE (op1 (isT "tuple") (op2 gIx (var 2) (cst (.int 0))))) (op2 gIx (var 2) (cst (.int 0))) (op2 gIx (var 2) (cst (.int 1))))) (seqS (asgR [6, 5] (tupE [ofN (callN [0] m__law_pick [var 0, lstE [cst .none, cst (.bool true), tupE [cst (.int 1)], tupE [cst (.int 1), cst (.int 2), cst (.int 3)], tupE [cst (.int 1), cst .none], cst (.str "1"), tupE [cst (.int 1), tupE [cst (.int 2), cst (.bool true)]], var 2, tupE []]]), ofN (callN [0] m__law_pick [var 0, lstE [op1 gNeg (cst (.int 1)), cst (.int 61), cst (.bool true), cst .none]])])) (seqS (asgS 7 (lstE [ofN (callN [] m__law_asked [cst (fnD "needed"), lstE [var 5]]), ofN (callN [] m__law_asked [cst (fnD "deeds_for"), lstE [var 5]]), ofN (callN [] m__law_asked [cst (fnD "numbered"), lstE [var 5]]), ofN (callN [] m__law_asked [cst (fnD "accept_deeds"), lstE [var 5, var 6, cst .none]]), ofN (callN [] m__law_asked [cst (fnD "accept_numbers"), lstE [var 5, cst .none]])])) (seqS (ifS (orT (op2 gNe (var 7) (op2 gMul (lstE [cst (.str "argument tree")]) (cst (.int 5)))) (orT (op2 gNe (ofN (callN [] m__law_asked [cst (fnD "accept_deeds"), lstE [var 1, var 6, cst .none]])) (cst (.str "argument many"))) (op2 gNe (ofN (callN [] m__law_asked [cst (fnD "run_deeds"), lstE [var 6, cst .none]])) (cst (.str "argument many"))))) (retS (cst (.bool false))) (nxS)) (seqS (asgS 8 (ofN (callN [] m__law_deeds [var 4, cst (.int 0)]))) (seqS (ifS (notT (truE (ofN (callN [] m__law_same [ofN (callN [] m__law_asked [cst (fnD "accept_deeds"), lstE [var 4, cst (.int 13), var 8]]), lstE [cst .none]])))) (retS (cst (.bool false))) (nxS)) (seqS (asgS 9 (tupE [tupE [cst (.str "load"), cst (.int 1), cst (.int 7)]])) (retS (andV (op2 gEq (ofN (callN [] m__law_asked [cst (fnD "run_deeds"), lstE [cst (.int 13), op2 gAdd (op2 gAdd (var 8) (var 9)) (tupE [tupE [cst (.str "join"), cst (.int 0), cst (.int 0), cst (.int 1)]])]])) (cst (.str "argument deeds"))) (op1 (isT "list") (ofN (callN [] m__law_asked [cst (fnD "run_deeds"), lstE [cst (.int 13), op2 gAdd (var 8) (var 9)]])))))))))))))
def m__law_refused : List T → Fo := fnM 2 10 [0] b__law_refused
theorem u__law_refused {x0 : T} {x1 : T} : m__law_refused [x0, x1] = fnE [0] (b__law_refused [some x0, some x1, none, none, none, none, none, none, none, none]) := e_fn rfl rfl
def f1_law : Sx := seqS (asgS 7 (ofN (callN [0] m__law_pick [var 1, lstE [var 4, var 4, var 4, op2 gAdd (var 4) (cst (.int 1)), op2 Dl.gSub (var 4) (cst (.int 1)), cst (.int 0), cst (.int 60)]]))) (seqS (asgS 8 (ifE (op2 gEq (var 6) (cst (.int 0))) (var 5) (ofN (callN [0] m__law_spoilt [var 1, var 5])))) (seqS (ifS (notT (truE (ofN (callN [] m__law_same [ofN (callN [] m__law_asked [cst (fnD "accept_deeds"), lstE [var 3, var 7, var 8]]), ofN (callN [] m__law_deeds_due [var 3, var 7, var 8])])))) (retS (cst (.bool false))) (nxS)) (seqS (asgS 9 (ofN (callN [] m__law_done [var 7, var 8]))) (seqS (ifS (notT (truE (ofN (callN [] m__law_same [ofN (callN [] m__law_asked [cst (fnD "run_deeds"), lstE [var 7, var 8]]), ifE (op2 gIsN (var 9) (cst .none)) (cst (.str "argument deeds")) (lstE [var 9])])))) (retS (cst (.bool false))) (nxS)) (seqS (asgS 10 (ifE (op2 gEq (var 6) (cst (.int 0))) (ofN (callN [] m__law_numbers [var 3])) (ofN (callN [0] m__law_spoilt [var 1, ofN (callN [] m__law_numbers [var 3])])))) (ifS (notT (truE (ofN (callN [] m__law_same [ofN (callN [] m__law_asked [cst (fnD "accept_numbers"), lstE [var 3, var 10]]), ifE (truE (ofN (callN [] m__law_are_numbers [var 3, var 10]))) (lstE [cst .none]) (cst (.str "paper numbers"))])))) (retS (cst (.bool false))) (nxS)))))))
def f2_law : Sx := seqS (asgS 3 (ofN (callN [0] m__law_tree [var 1, ofN (callN [0] m__law_pick [var 1, lstE [cst (.int 0), cst (.int 1), cst (.int 2), cst (.int 4)]]), cst (.bool false)]))) (seqS (asgR [5, 4] (tupE [ofN (callN [] m__law_need [var 3]), ofN (callN [] m__law_deeds [var 3, cst (.int 0)])])) (seqS (forS (.nm 6) (ixR1 (cst (.int 8))) f1_law) (ifS (notT (truE (ofN (callN [0] m__law_refused [var 1, var 3])))) (retS (cst (.bool false))) (nxS))))
def b_law : Sx := seqS (forS (.nm 2) (ixR1 (cst (.int 3))) f2_law) (retS (cst (.bool true)))
end
theorem wc_0 : mCount (.list [.bool true, .bool false, .bool false, .bool false]) [.bool true] = some (.int 1) := rfl
theorem wd_0 : mIndex (.list [.bool true, .bool false, .bool false, .bool false]) [.bool true] = some (.int 0) := rfl
theorem wc_1 : mCount (.list [.bool false, .bool true, .bool false, .bool false]) [.bool true] = some (.int 1) := rfl
theorem wd_1 : mIndex (.list [.bool false, .bool true, .bool false, .bool false]) [.bool true] = some (.int 1) := rfl
theorem wc_2 : mCount (.list [.bool false, .bool false, .bool true, .bool false]) [.bool true] = some (.int 1) := rfl
theorem wd_2 : mIndex (.list [.bool false, .bool false, .bool true, .bool false]) [.bool true] = some (.int 2) := rfl
theorem wc_3 : mCount (.list [.bool false, .bool false, .bool false, .bool true]) [.bool true] = some (.int 1) := rfl
theorem wd_3 : mIndex (.list [.bool false, .bool false, .bool false, .bool true]) [.bool true] = some (.int 3) := rfl
theorem wc_4 : mCount (.list [.bool false, .bool false, .bool false, .bool false]) [.bool true] = some (.int 0) := rfl
theorem ws_HeapError_HeapError : subE "HeapError" "HeapError" = true := by decide
theorem ws_HeapError_ArgumentError : subE "HeapError" "ArgumentError" = false := by decide
theorem ws_HeapError_PaperError : subE "HeapError" "PaperError" = false := by decide
theorem ws_HeapError_TooMany : subE "HeapError" "TooMany" = false := by decide
theorem ws_HeapError_ValueError : subE "HeapError" "ValueError" = true := by decide
theorem wn_HeapError : ("HeapError" : Str) ∈ errs := by decide
theorem wt_HeapError : (("reason" : Str) = excAttr "HeapError") = True := eq_true (by decide)
theorem w_HeapError {a dd : Addr} {x : D} : m__law_word a dd "HeapError" [.d (excD a dd "HeapError" x)] = oRt (gAdd (.str "heap ") x) := by
  rw [u__law_word]
  unfold b__law_word
  simp only [Dl.geq_i, Dl.it_l, Dl.gx_l, Dl.at_0, Dl.at_1, Dl.at_2, Dl.at_3, Dl.at_4, Dl.at_5, Dl.at_6, Dl.tr_b, decide_true, reduceCtorEq, decide_false, Int.reduceEq, wc_0, wd_0, wc_1, wd_1, wc_2, wd_2, wc_3, wd_3, wc_4, ws_HeapError_HeapError, ws_HeapError_ArgumentError, ws_HeapError_PaperError, ws_HeapError_TooMany, ws_HeapError_ValueError, wn_HeapError, wt_HeapError, Dl.gd0, Dl.gdS, Dl.st0, Dl.stS, Dl.bd_ok, Dl.bd_ex, Dl.bd_bad, Dl.bd_if, Dl.bA_ok, Dl.bA_ex, Dl.bA_bad, Dl.bA_if, Dl.ou_ok, Dl.ou_ex, Dl.ou_bad, Dl.ou_if, Dl.sq_nx, Dl.sq_rt, Dl.sq_bk, Dl.sq_ct, Dl.sq_ex, Dl.sq_bad, Dl.sq_if, Dl.td_d, Dl.td_s, Dl.tds_0, Dl.tds_S, Dl.fz_d, Dl.fz_s, Dl.fzs_0, Dl.fzs_S, Dl.fz1_s, Dl.fz2_s, Dl.e_cst, Dl.e_var, Dl.var_d, Dl.var_own, Dl.var_bor, Dl.var_odk, Dl.var_odt, Dl.var_bdk, Dl.var_bdt, Dl.of_s, Dl.of_n, Dl.of_if, Dl.o1_s, Dl.o2_s, Dl.oA_s, Dl.e_op1, Dl.e_op2, Dl.ev_0, Dl.ev_S, Dl.evB_ok, Dl.evB_ex, Dl.evB_bad, Dl.evB_if, Dl.evC_ok, Dl.evC_ex, Dl.evC_bad, Dl.evC_if, Dl.e_opA, Dl.oTru_s, Dl.oTru2_s, Dl.e_tru, Dl.e_and, Dl.e_or, Dl.e_not, Dl.e_ifE, Dl.kAnd_b, Dl.kOr_b, Dl.kNot_b, Dl.kIfE_b, Dl.e_andV, Dl.e_orV, Dl.oAndV_b, Dl.oOrV_b, Dl.e_notV, Dl.e_chain, Dl.chn_1, Dl.chn_2, Dl.och0_s, Dl.och_b, Dl.e_tup, Dl.e_lst, Dl.oTup_s, Dl.oLst_s, Dl.e_frz, Dl.oFz_s, Dl.pt_0, Dl.pt_1, Dl.pOf_i, Dl.sl2_s, Dl.sl1_s, Dl.sl3_s, Dl.e_sl, Dl.e_ofN, Dl.oN_d, Dl.oN_own, Dl.oN_odk, Dl.oN_odt, Dl.oN_bor, Dl.oN_bdk, Dl.oN_bdt, Dl.oN_r, Dl.oN_n, Dl.oN_if, Dl.e_call, Dl.cN_ok, Dl.cN_ex, Dl.cN_bad, Dl.cN_if, Dl.e_callA, Dl.cA1_s, Dl.cA2_r, Dl.cA2_x, Dl.cA2_b, Dl.cA2_if, Dl.di_0, Dl.di_d, Dl.so_d, Dl.so_s, Dl.di_s, Dl.di1_0, Dl.di1_d, Dl.at_d, Dl.at_s, Dl.arg1_o, Dl.arg1_l, Dl.arg1_b, Dl.ats_0, Dl.ats_S, Dl.oC_s, Dl.pu_0, Dl.pu_S, Dl.pu1_s, Dl.pu1_n, Dl.e_callV, Dl.cV1_s, Dl.cV2_s, Dl.s_seq, Dl.s_nx, Dl.s_bk, Dl.s_ct, Dl.s_expr, Dl.kX_e, Dl.s_asg, Dl.as1_s, Dl.s_ret, Dl.kRt_d, Dl.kRt_s, Dl.rt1_o, Dl.s_retNone, Dl.s_if, Dl.kIf_b, Dl.s_asgN, Dl.s_retN, Dl.aN_s, Dl.aN_r, Dl.rN_s, Dl.rN_r, Dl.aN_b, Dl.rN_b, Dl.aN_if, Dl.rN_if, Dl.s_asgG, Dl.g1_s, Dl.g2_s, Dl.aT_n, Dl.aT_p, Dl.aT_l, Dl.s_asgU, Dl.aU_s, Dl.aTs_0, Dl.aTs_n, Dl.s_asgR, Dl.gR_s, Dl.s_raise, Dl.rs1_s, Dl.s_try, Dl.tr1_r, Dl.tr1_n, Dl.tr1_x, Dl.tr1_b, Dl.tr1_if, Dl.un_r, Dl.un_x, Dl.un_b, Dl.un_if, Dl.e_isX, Dl.ix1_s, Dl.e_atX, Dl.ax1_s, Dl.e_newA, Dl.nA_ok, Dl.nA1_s, Dl.nA2_s, Dl.e_newL, Dl.nL_ok, Dl.nL_ex, Dl.nL_b, Dl.nL_if, Dl.nL1_s, Dl.e_me, Dl.me1_s, Dl.me3_s, Dl.e_ch, Dl.ch0_o, Dl.ch1_s, Dl.ch2_s, Dl.ch3_s, Dl.ch3_if, Dl.s_setIx, Dl.si1_s, Dl.si2_o, Dl.si3_s, Dl.si4_s, Dl.s_aug, Dl.ag1_d, Dl.ag2_s, Dl.ag3_s, Dl.s_for, Dl.fS_s, Dl.fS_if, Dl.fL_0, Dl.fL1_s, Dl.fL2_n, Dl.fL2_c, Dl.fL2_b, Dl.fL2_r, Dl.fL2_if, Dl.e_ixE, Dl.iE_l, Dl.iE_t, Dl.iE_s, Dl.iE2_b, Dl.e_ixR1, Dl.e_ixR2, Dl.kWh_t, Dl.kWh_f, Dl.wh1_n, Dl.wh1_c, Dl.wh1_b, Dl.wh1_r, Dl.e_backAt, Dl.bk1_b, Dl.bk_n, Dl.bk_b, Dl.bk_c, Dl.bk_r, Dl.bkO_s, Dl.bk_if, Dl.s_lock, Dl.lkS_o, Dl.lkS_d, Dl.lkS_b, Dl.bkN_s, Dl.bkN1_s, Dl.e_lockN, Dl.lkN_o, Dl.lkN_d, Dl.lkN_b, Dl.rst1_d, Dl.rst1_n, Dl.wp_0, Dl.wp_S, Dl.rd_0, Dl.rd_S, Dl.e_lcN, Dl.lcR1_s, Dl.lcR2_s, Dl.lc_0, Dl.lc1_s, Dl.lc2_b, Dl.lc3_s, Dl.lc4_s, Dl.ts_n, Dl.ts_s, Dl.fE_n, Dl.fE_r, Dl.fE_x, Dl.fE_b, Dl.fE_if, Dl.en_0, Dl.en_1, Dl.okT_d, Dl.okT_o, Dl.oRt_s, Dl.fE_of, Dl.kop1, Dl.kop2, Dl.kop2b, Dl.kopA, Dl.kTru, Dl.kFz, Dl.kAndV, Dl.kOrV, Dl.kch1, Dl.kch2, Dl.kTup, Dl.kLst, Dl.kSl, Dl.tdO, Dl.T.dat, Dl.fzO, Dl.kAs, Dl.kG, Dl.kU, Dl.kR, Dl.kRs, Dl.kMe, Dl.kMe2, Dl.kCh, Dl.kSi, Dl.kSi3, Dl.kAg, Dl.slO, Dl.uAt, Option.bind_some, Option.map_some, List.getElem?_cons_zero, List.getElem?_cons_succ, List.set_cons_zero, List.set_cons_succ, List.length_cons, List.length_nil, Bool.true_and, Bool.and_true, Bool.not_true, Bool.not_false, if_true, if_false, Bool.false_eq_true, decide_eq_true_eq, Nat.zero_add, Nat.reduceAdd, Nat.reduceLT, List.nil_append, List.cons_append, List.isEmpty_cons, List.isEmpty_nil]
theorem ws_ArgumentError_HeapError : subE "ArgumentError" "HeapError" = false := by decide
theorem ws_ArgumentError_ArgumentError : subE "ArgumentError" "ArgumentError" = true := by decide
theorem ws_ArgumentError_PaperError : subE "ArgumentError" "PaperError" = false := by decide
theorem ws_ArgumentError_TooMany : subE "ArgumentError" "TooMany" = false := by decide
theorem ws_ArgumentError_ValueError : subE "ArgumentError" "ValueError" = true := by decide
theorem wn_ArgumentError : ("ArgumentError" : Str) ∈ errs := by decide
theorem wt_ArgumentError : (("reason" : Str) = excAttr "ArgumentError") = True := eq_true (by decide)
theorem w_ArgumentError {a dd : Addr} {x : D} : m__law_word a dd "ArgumentError" [.d (excD a dd "ArgumentError" x)] = oRt (gAdd (.str "argument ") x) := by
  rw [u__law_word]
  unfold b__law_word
  simp only [Dl.geq_i, Dl.it_l, Dl.gx_l, Dl.at_0, Dl.at_1, Dl.at_2, Dl.at_3, Dl.at_4, Dl.at_5, Dl.at_6, Dl.tr_b, decide_true, reduceCtorEq, decide_false, Int.reduceEq, wc_0, wd_0, wc_1, wd_1, wc_2, wd_2, wc_3, wd_3, wc_4, ws_ArgumentError_HeapError, ws_ArgumentError_ArgumentError, ws_ArgumentError_PaperError, ws_ArgumentError_TooMany, ws_ArgumentError_ValueError, wn_ArgumentError, wt_ArgumentError, Dl.gd0, Dl.gdS, Dl.st0, Dl.stS, Dl.bd_ok, Dl.bd_ex, Dl.bd_bad, Dl.bd_if, Dl.bA_ok, Dl.bA_ex, Dl.bA_bad, Dl.bA_if, Dl.ou_ok, Dl.ou_ex, Dl.ou_bad, Dl.ou_if, Dl.sq_nx, Dl.sq_rt, Dl.sq_bk, Dl.sq_ct, Dl.sq_ex, Dl.sq_bad, Dl.sq_if, Dl.td_d, Dl.td_s, Dl.tds_0, Dl.tds_S, Dl.fz_d, Dl.fz_s, Dl.fzs_0, Dl.fzs_S, Dl.fz1_s, Dl.fz2_s, Dl.e_cst, Dl.e_var, Dl.var_d, Dl.var_own, Dl.var_bor, Dl.var_odk, Dl.var_odt, Dl.var_bdk, Dl.var_bdt, Dl.of_s, Dl.of_n, Dl.of_if, Dl.o1_s, Dl.o2_s, Dl.oA_s, Dl.e_op1, Dl.e_op2, Dl.ev_0, Dl.ev_S, Dl.evB_ok, Dl.evB_ex, Dl.evB_bad, Dl.evB_if, Dl.evC_ok, Dl.evC_ex, Dl.evC_bad, Dl.evC_if, Dl.e_opA, Dl.oTru_s, Dl.oTru2_s, Dl.e_tru, Dl.e_and, Dl.e_or, Dl.e_not, Dl.e_ifE, Dl.kAnd_b, Dl.kOr_b, Dl.kNot_b, Dl.kIfE_b, Dl.e_andV, Dl.e_orV, Dl.oAndV_b, Dl.oOrV_b, Dl.e_notV, Dl.e_chain, Dl.chn_1, Dl.chn_2, Dl.och0_s, Dl.och_b, Dl.e_tup, Dl.e_lst, Dl.oTup_s, Dl.oLst_s, Dl.e_frz, Dl.oFz_s, Dl.pt_0, Dl.pt_1, Dl.pOf_i, Dl.sl2_s, Dl.sl1_s, Dl.sl3_s, Dl.e_sl, Dl.e_ofN, Dl.oN_d, Dl.oN_own, Dl.oN_odk, Dl.oN_odt, Dl.oN_bor, Dl.oN_bdk, Dl.oN_bdt, Dl.oN_r, Dl.oN_n, Dl.oN_if, Dl.e_call, Dl.cN_ok, Dl.cN_ex, Dl.cN_bad, Dl.cN_if, Dl.e_callA, Dl.cA1_s, Dl.cA2_r, Dl.cA2_x, Dl.cA2_b, Dl.cA2_if, Dl.di_0, Dl.di_d, Dl.so_d, Dl.so_s, Dl.di_s, Dl.di1_0, Dl.di1_d, Dl.at_d, Dl.at_s, Dl.arg1_o, Dl.arg1_l, Dl.arg1_b, Dl.ats_0, Dl.ats_S, Dl.oC_s, Dl.pu_0, Dl.pu_S, Dl.pu1_s, Dl.pu1_n, Dl.e_callV, Dl.cV1_s, Dl.cV2_s, Dl.s_seq, Dl.s_nx, Dl.s_bk, Dl.s_ct, Dl.s_expr, Dl.kX_e, Dl.s_asg, Dl.as1_s, Dl.s_ret, Dl.kRt_d, Dl.kRt_s, Dl.rt1_o, Dl.s_retNone, Dl.s_if, Dl.kIf_b, Dl.s_asgN, Dl.s_retN, Dl.aN_s, Dl.aN_r, Dl.rN_s, Dl.rN_r, Dl.aN_b, Dl.rN_b, Dl.aN_if, Dl.rN_if, Dl.s_asgG, Dl.g1_s, Dl.g2_s, Dl.aT_n, Dl.aT_p, Dl.aT_l, Dl.s_asgU, Dl.aU_s, Dl.aTs_0, Dl.aTs_n, Dl.s_asgR, Dl.gR_s, Dl.s_raise, Dl.rs1_s, Dl.s_try, Dl.tr1_r, Dl.tr1_n, Dl.tr1_x, Dl.tr1_b, Dl.tr1_if, Dl.un_r, Dl.un_x, Dl.un_b, Dl.un_if, Dl.e_isX, Dl.ix1_s, Dl.e_atX, Dl.ax1_s, Dl.e_newA, Dl.nA_ok, Dl.nA1_s, Dl.nA2_s, Dl.e_newL, Dl.nL_ok, Dl.nL_ex, Dl.nL_b, Dl.nL_if, Dl.nL1_s, Dl.e_me, Dl.me1_s, Dl.me3_s, Dl.e_ch, Dl.ch0_o, Dl.ch1_s, Dl.ch2_s, Dl.ch3_s, Dl.ch3_if, Dl.s_setIx, Dl.si1_s, Dl.si2_o, Dl.si3_s, Dl.si4_s, Dl.s_aug, Dl.ag1_d, Dl.ag2_s, Dl.ag3_s, Dl.s_for, Dl.fS_s, Dl.fS_if, Dl.fL_0, Dl.fL1_s, Dl.fL2_n, Dl.fL2_c, Dl.fL2_b, Dl.fL2_r, Dl.fL2_if, Dl.e_ixE, Dl.iE_l, Dl.iE_t, Dl.iE_s, Dl.iE2_b, Dl.e_ixR1, Dl.e_ixR2, Dl.kWh_t, Dl.kWh_f, Dl.wh1_n, Dl.wh1_c, Dl.wh1_b, Dl.wh1_r, Dl.e_backAt, Dl.bk1_b, Dl.bk_n, Dl.bk_b, Dl.bk_c, Dl.bk_r, Dl.bkO_s, Dl.bk_if, Dl.s_lock, Dl.lkS_o, Dl.lkS_d, Dl.lkS_b, Dl.bkN_s, Dl.bkN1_s, Dl.e_lockN, Dl.lkN_o, Dl.lkN_d, Dl.lkN_b, Dl.rst1_d, Dl.rst1_n, Dl.wp_0, Dl.wp_S, Dl.rd_0, Dl.rd_S, Dl.e_lcN, Dl.lcR1_s, Dl.lcR2_s, Dl.lc_0, Dl.lc1_s, Dl.lc2_b, Dl.lc3_s, Dl.lc4_s, Dl.ts_n, Dl.ts_s, Dl.fE_n, Dl.fE_r, Dl.fE_x, Dl.fE_b, Dl.fE_if, Dl.en_0, Dl.en_1, Dl.okT_d, Dl.okT_o, Dl.oRt_s, Dl.fE_of, Dl.kop1, Dl.kop2, Dl.kop2b, Dl.kopA, Dl.kTru, Dl.kFz, Dl.kAndV, Dl.kOrV, Dl.kch1, Dl.kch2, Dl.kTup, Dl.kLst, Dl.kSl, Dl.tdO, Dl.T.dat, Dl.fzO, Dl.kAs, Dl.kG, Dl.kU, Dl.kR, Dl.kRs, Dl.kMe, Dl.kMe2, Dl.kCh, Dl.kSi, Dl.kSi3, Dl.kAg, Dl.slO, Dl.uAt, Option.bind_some, Option.map_some, List.getElem?_cons_zero, List.getElem?_cons_succ, List.set_cons_zero, List.set_cons_succ, List.length_cons, List.length_nil, Bool.true_and, Bool.and_true, Bool.not_true, Bool.not_false, if_true, if_false, Bool.false_eq_true, decide_eq_true_eq, Nat.zero_add, Nat.reduceAdd, Nat.reduceLT, List.nil_append, List.cons_append, List.isEmpty_cons, List.isEmpty_nil]
theorem ws_PaperError_HeapError : subE "PaperError" "HeapError" = false := by decide
theorem ws_PaperError_ArgumentError : subE "PaperError" "ArgumentError" = false := by decide
theorem ws_PaperError_PaperError : subE "PaperError" "PaperError" = true := by decide
theorem ws_PaperError_TooMany : subE "PaperError" "TooMany" = false := by decide
theorem ws_PaperError_ValueError : subE "PaperError" "ValueError" = true := by decide
theorem wn_PaperError : ("PaperError" : Str) ∈ errs := by decide
theorem wt_PaperError : (("reason" : Str) = excAttr "PaperError") = True := eq_true (by decide)
theorem w_PaperError {a dd : Addr} {x : D} : m__law_word a dd "PaperError" [.d (excD a dd "PaperError" x)] = oRt (gAdd (.str "paper ") x) := by
  rw [u__law_word]
  unfold b__law_word
  simp only [Dl.geq_i, Dl.it_l, Dl.gx_l, Dl.at_0, Dl.at_1, Dl.at_2, Dl.at_3, Dl.at_4, Dl.at_5, Dl.at_6, Dl.tr_b, decide_true, reduceCtorEq, decide_false, Int.reduceEq, wc_0, wd_0, wc_1, wd_1, wc_2, wd_2, wc_3, wd_3, wc_4, ws_PaperError_HeapError, ws_PaperError_ArgumentError, ws_PaperError_PaperError, ws_PaperError_TooMany, ws_PaperError_ValueError, wn_PaperError, wt_PaperError, Dl.gd0, Dl.gdS, Dl.st0, Dl.stS, Dl.bd_ok, Dl.bd_ex, Dl.bd_bad, Dl.bd_if, Dl.bA_ok, Dl.bA_ex, Dl.bA_bad, Dl.bA_if, Dl.ou_ok, Dl.ou_ex, Dl.ou_bad, Dl.ou_if, Dl.sq_nx, Dl.sq_rt, Dl.sq_bk, Dl.sq_ct, Dl.sq_ex, Dl.sq_bad, Dl.sq_if, Dl.td_d, Dl.td_s, Dl.tds_0, Dl.tds_S, Dl.fz_d, Dl.fz_s, Dl.fzs_0, Dl.fzs_S, Dl.fz1_s, Dl.fz2_s, Dl.e_cst, Dl.e_var, Dl.var_d, Dl.var_own, Dl.var_bor, Dl.var_odk, Dl.var_odt, Dl.var_bdk, Dl.var_bdt, Dl.of_s, Dl.of_n, Dl.of_if, Dl.o1_s, Dl.o2_s, Dl.oA_s, Dl.e_op1, Dl.e_op2, Dl.ev_0, Dl.ev_S, Dl.evB_ok, Dl.evB_ex, Dl.evB_bad, Dl.evB_if, Dl.evC_ok, Dl.evC_ex, Dl.evC_bad, Dl.evC_if, Dl.e_opA, Dl.oTru_s, Dl.oTru2_s, Dl.e_tru, Dl.e_and, Dl.e_or, Dl.e_not, Dl.e_ifE, Dl.kAnd_b, Dl.kOr_b, Dl.kNot_b, Dl.kIfE_b, Dl.e_andV, Dl.e_orV, Dl.oAndV_b, Dl.oOrV_b, Dl.e_notV, Dl.e_chain, Dl.chn_1, Dl.chn_2, Dl.och0_s, Dl.och_b, Dl.e_tup, Dl.e_lst, Dl.oTup_s, Dl.oLst_s, Dl.e_frz, Dl.oFz_s, Dl.pt_0, Dl.pt_1, Dl.pOf_i, Dl.sl2_s, Dl.sl1_s, Dl.sl3_s, Dl.e_sl, Dl.e_ofN, Dl.oN_d, Dl.oN_own, Dl.oN_odk, Dl.oN_odt, Dl.oN_bor, Dl.oN_bdk, Dl.oN_bdt, Dl.oN_r, Dl.oN_n, Dl.oN_if, Dl.e_call, Dl.cN_ok, Dl.cN_ex, Dl.cN_bad, Dl.cN_if, Dl.e_callA, Dl.cA1_s, Dl.cA2_r, Dl.cA2_x, Dl.cA2_b, Dl.cA2_if, Dl.di_0, Dl.di_d, Dl.so_d, Dl.so_s, Dl.di_s, Dl.di1_0, Dl.di1_d, Dl.at_d, Dl.at_s, Dl.arg1_o, Dl.arg1_l, Dl.arg1_b, Dl.ats_0, Dl.ats_S, Dl.oC_s, Dl.pu_0, Dl.pu_S, Dl.pu1_s, Dl.pu1_n, Dl.e_callV, Dl.cV1_s, Dl.cV2_s, Dl.s_seq, Dl.s_nx, Dl.s_bk, Dl.s_ct, Dl.s_expr, Dl.kX_e, Dl.s_asg, Dl.as1_s, Dl.s_ret, Dl.kRt_d, Dl.kRt_s, Dl.rt1_o, Dl.s_retNone, Dl.s_if, Dl.kIf_b, Dl.s_asgN, Dl.s_retN, Dl.aN_s, Dl.aN_r, Dl.rN_s, Dl.rN_r, Dl.aN_b, Dl.rN_b, Dl.aN_if, Dl.rN_if, Dl.s_asgG, Dl.g1_s, Dl.g2_s, Dl.aT_n, Dl.aT_p, Dl.aT_l, Dl.s_asgU, Dl.aU_s, Dl.aTs_0, Dl.aTs_n, Dl.s_asgR, Dl.gR_s, Dl.s_raise, Dl.rs1_s, Dl.s_try, Dl.tr1_r, Dl.tr1_n, Dl.tr1_x, Dl.tr1_b, Dl.tr1_if, Dl.un_r, Dl.un_x, Dl.un_b, Dl.un_if, Dl.e_isX, Dl.ix1_s, Dl.e_atX, Dl.ax1_s, Dl.e_newA, Dl.nA_ok, Dl.nA1_s, Dl.nA2_s, Dl.e_newL, Dl.nL_ok, Dl.nL_ex, Dl.nL_b, Dl.nL_if, Dl.nL1_s, Dl.e_me, Dl.me1_s, Dl.me3_s, Dl.e_ch, Dl.ch0_o, Dl.ch1_s, Dl.ch2_s, Dl.ch3_s, Dl.ch3_if, Dl.s_setIx, Dl.si1_s, Dl.si2_o, Dl.si3_s, Dl.si4_s, Dl.s_aug, Dl.ag1_d, Dl.ag2_s, Dl.ag3_s, Dl.s_for, Dl.fS_s, Dl.fS_if, Dl.fL_0, Dl.fL1_s, Dl.fL2_n, Dl.fL2_c, Dl.fL2_b, Dl.fL2_r, Dl.fL2_if, Dl.e_ixE, Dl.iE_l, Dl.iE_t, Dl.iE_s, Dl.iE2_b, Dl.e_ixR1, Dl.e_ixR2, Dl.kWh_t, Dl.kWh_f, Dl.wh1_n, Dl.wh1_c, Dl.wh1_b, Dl.wh1_r, Dl.e_backAt, Dl.bk1_b, Dl.bk_n, Dl.bk_b, Dl.bk_c, Dl.bk_r, Dl.bkO_s, Dl.bk_if, Dl.s_lock, Dl.lkS_o, Dl.lkS_d, Dl.lkS_b, Dl.bkN_s, Dl.bkN1_s, Dl.e_lockN, Dl.lkN_o, Dl.lkN_d, Dl.lkN_b, Dl.rst1_d, Dl.rst1_n, Dl.wp_0, Dl.wp_S, Dl.rd_0, Dl.rd_S, Dl.e_lcN, Dl.lcR1_s, Dl.lcR2_s, Dl.lc_0, Dl.lc1_s, Dl.lc2_b, Dl.lc3_s, Dl.lc4_s, Dl.ts_n, Dl.ts_s, Dl.fE_n, Dl.fE_r, Dl.fE_x, Dl.fE_b, Dl.fE_if, Dl.en_0, Dl.en_1, Dl.okT_d, Dl.okT_o, Dl.oRt_s, Dl.fE_of, Dl.kop1, Dl.kop2, Dl.kop2b, Dl.kopA, Dl.kTru, Dl.kFz, Dl.kAndV, Dl.kOrV, Dl.kch1, Dl.kch2, Dl.kTup, Dl.kLst, Dl.kSl, Dl.tdO, Dl.T.dat, Dl.fzO, Dl.kAs, Dl.kG, Dl.kU, Dl.kR, Dl.kRs, Dl.kMe, Dl.kMe2, Dl.kCh, Dl.kSi, Dl.kSi3, Dl.kAg, Dl.slO, Dl.uAt, Option.bind_some, Option.map_some, List.getElem?_cons_zero, List.getElem?_cons_succ, List.set_cons_zero, List.set_cons_succ, List.length_cons, List.length_nil, Bool.true_and, Bool.and_true, Bool.not_true, Bool.not_false, if_true, if_false, Bool.false_eq_true, decide_eq_true_eq, Nat.zero_add, Nat.reduceAdd, Nat.reduceLT, List.nil_append, List.cons_append, List.isEmpty_cons, List.isEmpty_nil]
theorem ws_TooMany_HeapError : subE "TooMany" "HeapError" = false := by decide
theorem ws_TooMany_ArgumentError : subE "TooMany" "ArgumentError" = false := by decide
theorem ws_TooMany_PaperError : subE "TooMany" "PaperError" = false := by decide
theorem ws_TooMany_TooMany : subE "TooMany" "TooMany" = true := by decide
theorem ws_TooMany_ValueError : subE "TooMany" "ValueError" = true := by decide
theorem wn_TooMany : ("TooMany" : Str) ∈ errs := by decide
theorem wt_TooMany : (("reason" : Str) = excAttr "TooMany") = True := eq_true (by decide)
theorem w_TooMany {a dd : Addr} {x : D} : m__law_word a dd "TooMany" [.d (excD a dd "TooMany" x)] = oRt (gAdd (.str "many ") x) := by
  rw [u__law_word]
  unfold b__law_word
  simp only [Dl.geq_i, Dl.it_l, Dl.gx_l, Dl.at_0, Dl.at_1, Dl.at_2, Dl.at_3, Dl.at_4, Dl.at_5, Dl.at_6, Dl.tr_b, decide_true, reduceCtorEq, decide_false, Int.reduceEq, wc_0, wd_0, wc_1, wd_1, wc_2, wd_2, wc_3, wd_3, wc_4, ws_TooMany_HeapError, ws_TooMany_ArgumentError, ws_TooMany_PaperError, ws_TooMany_TooMany, ws_TooMany_ValueError, wn_TooMany, wt_TooMany, Dl.gd0, Dl.gdS, Dl.st0, Dl.stS, Dl.bd_ok, Dl.bd_ex, Dl.bd_bad, Dl.bd_if, Dl.bA_ok, Dl.bA_ex, Dl.bA_bad, Dl.bA_if, Dl.ou_ok, Dl.ou_ex, Dl.ou_bad, Dl.ou_if, Dl.sq_nx, Dl.sq_rt, Dl.sq_bk, Dl.sq_ct, Dl.sq_ex, Dl.sq_bad, Dl.sq_if, Dl.td_d, Dl.td_s, Dl.tds_0, Dl.tds_S, Dl.fz_d, Dl.fz_s, Dl.fzs_0, Dl.fzs_S, Dl.fz1_s, Dl.fz2_s, Dl.e_cst, Dl.e_var, Dl.var_d, Dl.var_own, Dl.var_bor, Dl.var_odk, Dl.var_odt, Dl.var_bdk, Dl.var_bdt, Dl.of_s, Dl.of_n, Dl.of_if, Dl.o1_s, Dl.o2_s, Dl.oA_s, Dl.e_op1, Dl.e_op2, Dl.ev_0, Dl.ev_S, Dl.evB_ok, Dl.evB_ex, Dl.evB_bad, Dl.evB_if, Dl.evC_ok, Dl.evC_ex, Dl.evC_bad, Dl.evC_if, Dl.e_opA, Dl.oTru_s, Dl.oTru2_s, Dl.e_tru, Dl.e_and, Dl.e_or, Dl.e_not, Dl.e_ifE, Dl.kAnd_b, Dl.kOr_b, Dl.kNot_b, Dl.kIfE_b, Dl.e_andV, Dl.e_orV, Dl.oAndV_b, Dl.oOrV_b, Dl.e_notV, Dl.e_chain, Dl.chn_1, Dl.chn_2, Dl.och0_s, Dl.och_b, Dl.e_tup, Dl.e_lst, Dl.oTup_s, Dl.oLst_s, Dl.e_frz, Dl.oFz_s, Dl.pt_0, Dl.pt_1, Dl.pOf_i, Dl.sl2_s, Dl.sl1_s, Dl.sl3_s, Dl.e_sl, Dl.e_ofN, Dl.oN_d, Dl.oN_own, Dl.oN_odk, Dl.oN_odt, Dl.oN_bor, Dl.oN_bdk, Dl.oN_bdt, Dl.oN_r, Dl.oN_n, Dl.oN_if, Dl.e_call, Dl.cN_ok, Dl.cN_ex, Dl.cN_bad, Dl.cN_if, Dl.e_callA, Dl.cA1_s, Dl.cA2_r, Dl.cA2_x, Dl.cA2_b, Dl.cA2_if, Dl.di_0, Dl.di_d, Dl.so_d, Dl.so_s, Dl.di_s, Dl.di1_0, Dl.di1_d, Dl.at_d, Dl.at_s, Dl.arg1_o, Dl.arg1_l, Dl.arg1_b, Dl.ats_0, Dl.ats_S, Dl.oC_s, Dl.pu_0, Dl.pu_S, Dl.pu1_s, Dl.pu1_n, Dl.e_callV, Dl.cV1_s, Dl.cV2_s, Dl.s_seq, Dl.s_nx, Dl.s_bk, Dl.s_ct, Dl.s_expr, Dl.kX_e, Dl.s_asg, Dl.as1_s, Dl.s_ret, Dl.kRt_d, Dl.kRt_s, Dl.rt1_o, Dl.s_retNone, Dl.s_if, Dl.kIf_b, Dl.s_asgN, Dl.s_retN, Dl.aN_s, Dl.aN_r, Dl.rN_s, Dl.rN_r, Dl.aN_b, Dl.rN_b, Dl.aN_if, Dl.rN_if, Dl.s_asgG, Dl.g1_s, Dl.g2_s, Dl.aT_n, Dl.aT_p, Dl.aT_l, Dl.s_asgU, Dl.aU_s, Dl.aTs_0, Dl.aTs_n, Dl.s_asgR, Dl.gR_s, Dl.s_raise, Dl.rs1_s, Dl.s_try, Dl.tr1_r, Dl.tr1_n, Dl.tr1_x, Dl.tr1_b, Dl.tr1_if, Dl.un_r, Dl.un_x, Dl.un_b, Dl.un_if, Dl.e_isX, Dl.ix1_s, Dl.e_atX, Dl.ax1_s, Dl.e_newA, Dl.nA_ok, Dl.nA1_s, Dl.nA2_s, Dl.e_newL, Dl.nL_ok, Dl.nL_ex, Dl.nL_b, Dl.nL_if, Dl.nL1_s, Dl.e_me, Dl.me1_s, Dl.me3_s, Dl.e_ch, Dl.ch0_o, Dl.ch1_s, Dl.ch2_s, Dl.ch3_s, Dl.ch3_if, Dl.s_setIx, Dl.si1_s, Dl.si2_o, Dl.si3_s, Dl.si4_s, Dl.s_aug, Dl.ag1_d, Dl.ag2_s, Dl.ag3_s, Dl.s_for, Dl.fS_s, Dl.fS_if, Dl.fL_0, Dl.fL1_s, Dl.fL2_n, Dl.fL2_c, Dl.fL2_b, Dl.fL2_r, Dl.fL2_if, Dl.e_ixE, Dl.iE_l, Dl.iE_t, Dl.iE_s, Dl.iE2_b, Dl.e_ixR1, Dl.e_ixR2, Dl.kWh_t, Dl.kWh_f, Dl.wh1_n, Dl.wh1_c, Dl.wh1_b, Dl.wh1_r, Dl.e_backAt, Dl.bk1_b, Dl.bk_n, Dl.bk_b, Dl.bk_c, Dl.bk_r, Dl.bkO_s, Dl.bk_if, Dl.s_lock, Dl.lkS_o, Dl.lkS_d, Dl.lkS_b, Dl.bkN_s, Dl.bkN1_s, Dl.e_lockN, Dl.lkN_o, Dl.lkN_d, Dl.lkN_b, Dl.rst1_d, Dl.rst1_n, Dl.wp_0, Dl.wp_S, Dl.rd_0, Dl.rd_S, Dl.e_lcN, Dl.lcR1_s, Dl.lcR2_s, Dl.lc_0, Dl.lc1_s, Dl.lc2_b, Dl.lc3_s, Dl.lc4_s, Dl.ts_n, Dl.ts_s, Dl.fE_n, Dl.fE_r, Dl.fE_x, Dl.fE_b, Dl.fE_if, Dl.en_0, Dl.en_1, Dl.okT_d, Dl.okT_o, Dl.oRt_s, Dl.fE_of, Dl.kop1, Dl.kop2, Dl.kop2b, Dl.kopA, Dl.kTru, Dl.kFz, Dl.kAndV, Dl.kOrV, Dl.kch1, Dl.kch2, Dl.kTup, Dl.kLst, Dl.kSl, Dl.tdO, Dl.T.dat, Dl.fzO, Dl.kAs, Dl.kG, Dl.kU, Dl.kR, Dl.kRs, Dl.kMe, Dl.kMe2, Dl.kCh, Dl.kSi, Dl.kSi3, Dl.kAg, Dl.slO, Dl.uAt, Option.bind_some, Option.map_some, List.getElem?_cons_zero, List.getElem?_cons_succ, List.set_cons_zero, List.set_cons_succ, List.length_cons, List.length_nil, Bool.true_and, Bool.and_true, Bool.not_true, Bool.not_false, if_true, if_false, Bool.false_eq_true, decide_eq_true_eq, Nat.zero_add, Nat.reduceAdd, Nat.reduceLT, List.nil_append, List.cons_append, List.isEmpty_cons, List.isEmpty_nil]
theorem par__law_word : ∀ (a dd : Addr) (c : Str) (x : D), m__law_word a dd c [.d (excD a dd c x)] = m__law_word 0 0 c [.d (excD 0 0 c x)] := by
  intro a dd c x
  by_cases h : c ∈ errs
  · have h' := h
    simp only [errs, List.mem_cons, List.not_mem_nil, or_false] at h'
    rcases h' with rfl | rfl | rfl | rfl <;> simp only [w_HeapError, w_ArgumentError, w_PaperError, w_TooMany]
  · rw [u__law_word, u__law_word]
    unfold b__law_word
    simp only [Dl.gd0, Dl.gdS, Dl.st0, Dl.stS, Dl.bd_ok, Dl.bd_ex, Dl.bd_bad, Dl.bd_if, Dl.bA_ok, Dl.bA_ex, Dl.bA_bad, Dl.bA_if, Dl.ou_ok, Dl.ou_ex, Dl.ou_bad, Dl.ou_if, Dl.sq_nx, Dl.sq_rt, Dl.sq_bk, Dl.sq_ct, Dl.sq_ex, Dl.sq_bad, Dl.sq_if, Dl.td_d, Dl.td_s, Dl.tds_0, Dl.tds_S, Dl.fz_d, Dl.fz_s, Dl.fzs_0, Dl.fzs_S, Dl.fz1_s, Dl.fz2_s, Dl.e_cst, Dl.e_var, Dl.var_d, Dl.var_own, Dl.var_bor, Dl.var_odk, Dl.var_odt, Dl.var_bdk, Dl.var_bdt, Dl.of_s, Dl.of_n, Dl.of_if, Dl.o1_s, Dl.o2_s, Dl.oA_s, Dl.e_op1, Dl.e_op2, Dl.ev_0, Dl.ev_S, Dl.evB_ok, Dl.evB_ex, Dl.evB_bad, Dl.evB_if, Dl.evC_ok, Dl.evC_ex, Dl.evC_bad, Dl.evC_if, Dl.e_opA, Dl.oTru_s, Dl.oTru2_s, Dl.e_tru, Dl.e_and, Dl.e_or, Dl.e_not, Dl.e_ifE, Dl.kAnd_b, Dl.kOr_b, Dl.kNot_b, Dl.kIfE_b, Dl.e_andV, Dl.e_orV, Dl.oAndV_b, Dl.oOrV_b, Dl.e_notV, Dl.e_chain, Dl.chn_1, Dl.chn_2, Dl.och0_s, Dl.och_b, Dl.e_tup, Dl.e_lst, Dl.oTup_s, Dl.oLst_s, Dl.e_frz, Dl.oFz_s, Dl.pt_0, Dl.pt_1, Dl.pOf_i, Dl.sl2_s, Dl.sl1_s, Dl.sl3_s, Dl.e_sl, Dl.e_ofN, Dl.oN_d, Dl.oN_own, Dl.oN_odk, Dl.oN_odt, Dl.oN_bor, Dl.oN_bdk, Dl.oN_bdt, Dl.oN_r, Dl.oN_n, Dl.oN_if, Dl.e_call, Dl.cN_ok, Dl.cN_ex, Dl.cN_bad, Dl.cN_if, Dl.e_callA, Dl.cA1_s, Dl.cA2_r, Dl.cA2_x, Dl.cA2_b, Dl.cA2_if, Dl.di_0, Dl.di_d, Dl.so_d, Dl.so_s, Dl.di_s, Dl.di1_0, Dl.di1_d, Dl.at_d, Dl.at_s, Dl.arg1_o, Dl.arg1_l, Dl.arg1_b, Dl.ats_0, Dl.ats_S, Dl.oC_s, Dl.pu_0, Dl.pu_S, Dl.pu1_s, Dl.pu1_n, Dl.e_callV, Dl.cV1_s, Dl.cV2_s, Dl.s_seq, Dl.s_nx, Dl.s_bk, Dl.s_ct, Dl.s_expr, Dl.kX_e, Dl.s_asg, Dl.as1_s, Dl.s_ret, Dl.kRt_d, Dl.kRt_s, Dl.rt1_o, Dl.s_retNone, Dl.s_if, Dl.kIf_b, Dl.s_asgN, Dl.s_retN, Dl.aN_s, Dl.aN_r, Dl.rN_s, Dl.rN_r, Dl.aN_b, Dl.rN_b, Dl.aN_if, Dl.rN_if, Dl.s_asgG, Dl.g1_s, Dl.g2_s, Dl.aT_n, Dl.aT_p, Dl.aT_l, Dl.s_asgU, Dl.aU_s, Dl.aTs_0, Dl.aTs_n, Dl.s_asgR, Dl.gR_s, Dl.s_raise, Dl.rs1_s, Dl.s_try, Dl.tr1_r, Dl.tr1_n, Dl.tr1_x, Dl.tr1_b, Dl.tr1_if, Dl.un_r, Dl.un_x, Dl.un_b, Dl.un_if, Dl.e_isX, Dl.ix1_s, Dl.e_atX, Dl.ax1_s, Dl.e_newA, Dl.nA_ok, Dl.nA1_s, Dl.nA2_s, Dl.e_newL, Dl.nL_ok, Dl.nL_ex, Dl.nL_b, Dl.nL_if, Dl.nL1_s, Dl.e_me, Dl.me1_s, Dl.me3_s, Dl.e_ch, Dl.ch0_o, Dl.ch1_s, Dl.ch2_s, Dl.ch3_s, Dl.ch3_if, Dl.s_setIx, Dl.si1_s, Dl.si2_o, Dl.si3_s, Dl.si4_s, Dl.s_aug, Dl.ag1_d, Dl.ag2_s, Dl.ag3_s, Dl.s_for, Dl.fS_s, Dl.fS_if, Dl.fL_0, Dl.fL1_s, Dl.fL2_n, Dl.fL2_c, Dl.fL2_b, Dl.fL2_r, Dl.fL2_if, Dl.e_ixE, Dl.iE_l, Dl.iE_t, Dl.iE_s, Dl.iE2_b, Dl.e_ixR1, Dl.e_ixR2, Dl.kWh_t, Dl.kWh_f, Dl.wh1_n, Dl.wh1_c, Dl.wh1_b, Dl.wh1_r, Dl.e_backAt, Dl.bk1_b, Dl.bk_n, Dl.bk_b, Dl.bk_c, Dl.bk_r, Dl.bkO_s, Dl.bk_if, Dl.s_lock, Dl.lkS_o, Dl.lkS_d, Dl.lkS_b, Dl.bkN_s, Dl.bkN1_s, Dl.e_lockN, Dl.lkN_o, Dl.lkN_d, Dl.lkN_b, Dl.rst1_d, Dl.rst1_n, Dl.wp_0, Dl.wp_S, Dl.rd_0, Dl.rd_S, Dl.e_lcN, Dl.lcR1_s, Dl.lcR2_s, Dl.lc_0, Dl.lc1_s, Dl.lc2_b, Dl.lc3_s, Dl.lc4_s, Dl.ts_n, Dl.ts_s, Dl.fE_n, Dl.fE_r, Dl.fE_x, Dl.fE_b, Dl.fE_if, Dl.en_0, Dl.en_1, Dl.okT_d, Dl.okT_o, Dl.oRt_s, Dl.fE_of, Dl.kop1, Dl.kop2, Dl.kop2b, Dl.kopA, Dl.kTru, Dl.kFz, Dl.kAndV, Dl.kOrV, Dl.kch1, Dl.kch2, Dl.kTup, Dl.kLst, Dl.kSl, Dl.tdO, Dl.T.dat, Dl.fzO, Dl.kAs, Dl.kG, Dl.kU, Dl.kR, Dl.kRs, Dl.kMe, Dl.kMe2, Dl.kCh, Dl.kSi, Dl.kSi3, Dl.kAg, Dl.slO, Dl.uAt, Option.bind_some, Option.map_some, List.getElem?_cons_zero, List.getElem?_cons_succ, List.set_cons_zero, List.set_cons_succ, List.length_cons, List.length_nil, Bool.true_and, Bool.and_true, Bool.not_true, Bool.not_false, if_true, if_false, Bool.false_eq_true, decide_eq_true_eq, Nat.zero_add, Nat.reduceAdd, Nat.reduceLT, List.nil_append, List.cons_append, List.isEmpty_cons, List.isEmpty_nil, h]
section
variable {P : Program} {w : World} {K : PySem.W.Frag} {mg : Str → Option Value} {base : Heap} {f : Addr} {fd : FuncData}
theorem sc_is_integer : FnScope ["value"] ["value"] (defScope s_is_integer) := ⟨rfl, rfl, rfl, by decide +kernel, rfl, by decide +kernel, by decide +kernel⟩
theorem ok_is_integer (T : Txt K mg) (F : Fun K "is_integer" "is_integer" s_is_integer f fd) (hm : mg "is_integer" = some (.ref f)) (bi : Binds K fd ["value"] []) : FnD P w K mg base "is_integer" 4 1 [] m_is_integer := by
  refine fnD_of (N := ["value"]) (b := b_is_integer) F hm bi sc_is_integer rfl fun cdv A out s H E c hp tk => ?_
  have hN := sc_is_integer.nd
  unfold b_is_integer
  exact dss_one (ds_ret (de_and (de_isT (de_var 0 rfl) (by decide) T.n_isinstance T.n_int bt_int bt_isinstance) (de_one (de_not (de_isT (de_var 0 rfl) (by decide) T.n_isinstance T.n_bool bt_bool bt_isinstance)))))
theorem sc_is_tree : FnScope ["value", "depth"] ["value", "depth"] (defScope s_is_tree) := ⟨rfl, rfl, rfl, by decide +kernel, rfl, by decide +kernel, by decide +kernel⟩
theorem ok_is_tree (T : Txt K mg) (g_is_integer : FnD P w K mg base "is_integer" 4 1 [] m_is_integer) (F : Fun K "is_tree" "is_tree" s_is_tree f fd) (hm : mg "is_tree" = some (.ref f)) (bi : Binds K fd ["value", "depth"] []) : ∀ n : Nat, FnD P w K mg base "is_tree" (5 + n) 2 [] (recM r_is_tree n) := by
  intro n
  induction n with
  | zero => exact fnD_bot F hm bi rfl
  | succ n g_is_tree =>
  refine fnD_of (k := 5 + n) (N := ["value", "depth"]) (b := b_is_tree (recM r_is_tree n)) F hm bi sc_is_tree rfl fun cdv A out s H E c hp tk => ?_
  have hN := sc_is_tree.nd
  unfold b_is_tree
  refine dss_cons (ds_if (dt_tru (de_ofN (dn_call g_is_integer c (by omega) tk (da_cons (de_var 0 rfl) da_nil)))) (dss_one (ds_ret de_bl)) dss_nil) ?_
  refine dss_cons (ds_if (DW.dt (dw_or (dt_not (dt_tru (de_isT (de_var 0 rfl) (by decide) T.n_isinstance T.n_tuple bt_tuple bt_isinstance))) (dw_or (dt_cmp (op_neE c.toCz.u64) o2_ne (de_callB call_len oA_len T.n_len bt_len (da_cons (de_var 0 rfl) da_nil)) de_int rfl) (dw_or1 (dt_cmp (op_eqE c.toCz.u64) o2_eq (de_var 1 rfl) de_int rfl))))) (dss_one (ds_ret de_bl)) dss_nil) ?_
  exact dss_one (ds_ret (de_and (de_ofN (dn_call g_is_tree c (by omega) tk (da_cons (de_ix (de_var 0 rfl) de_int) (da_cons (de_sub (de_var 1 rfl) de_int) da_nil)))) (de_one (de_ofN (dn_call g_is_tree c (by omega) tk (da_cons (de_ix (de_var 0 rfl) de_int) (da_cons (de_sub (de_var 1 rfl) de_int) da_nil)))))))
theorem sc_check_tree : FnScope ["tree"] ["tree"] (defScope s_check_tree) := ⟨rfl, rfl, rfl, by decide +kernel, rfl, by decide +kernel, by decide +kernel⟩
theorem ok_check_tree (T : Txt K mg) (g_is_tree : FnD P w K mg base "is_tree" 25 2 [] m_is_tree) (e_ArgumentError : ErrX P w K mg base "ArgumentError") (F : Fun K "check_tree" "check_tree" s_check_tree f fd) (hm : mg "check_tree" = some (.ref f)) (bi : Binds K fd ["tree"] []) : FnD P w K mg base "check_tree" 26 1 [] m_check_tree := by
  refine fnD_of (N := ["tree"]) (b := b_check_tree) F hm bi sc_check_tree rfl fun cdv A out s H E c hp tk => ?_
  have hN := sc_check_tree.nd
  unfold b_check_tree
  exact dss_one (ds_if (dt_not (dt_tru (de_ofN (dn_call g_is_tree c (by decide) tk (da_cons (de_var 0 rfl) (da_cons (de_globJ T.c_MAX_DEPTH) da_nil)))))) (dss_one (ds_raise e_ArgumentError c tk de_str)) dss_nil)
theorem sc_needed_of : FnScope ["tree", "one", "other"] ["tree"] (defScope s_needed_of) := ⟨rfl, rfl, rfl, by decide +kernel, rfl, by decide +kernel, by decide +kernel⟩
theorem ok_needed_of (T : Txt K mg) (F : Fun K "needed_of" "needed_of" s_needed_of f fd) (hm : mg "needed_of" = some (.ref f)) (bi : Binds K fd ["tree"] []) : ∀ n : Nat, FnD P w K mg base "needed_of" (4 + n) 1 [] (recM r_needed_of n) := by
  intro n
  induction n with
  | zero => exact fnD_bot F hm bi rfl
  | succ n g_needed_of =>
  refine fnD_of (k := 4 + n) (N := ["tree", "one", "other"]) (b := b_needed_of (recM r_needed_of n)) F hm bi sc_needed_of rfl fun cdv A out s H E c hp tk => ?_
  have hN := sc_needed_of.nd
  unfold b_needed_of
  refine dss_cons (ds_if (dt_not (dt_tru (de_isT (de_var 0 rfl) (by decide) T.n_isinstance T.n_tuple bt_tuple bt_isinstance))) (dss_one (ds_ret de_int)) dss_nil) ?_
  refine dss_cons (ds_swp [2, 1] ["other", "one"] c.calm hN (de_tup (da_cons (de_ofN (dn_call g_needed_of c (by omega) tk (da_cons (de_ix (de_var 0 rfl) de_int) da_nil))) (da_cons (de_ofN (dn_call g_needed_of c (by omega) tk (da_cons (de_ix (de_var 0 rfl) de_int) da_nil))) da_nil))) ⟨rfl, rfl, by decide, ⟨rfl, rfl, by decide, True.intro⟩⟩) ?_
  exact dss_one (ds_ret (de_if (dt_cmp (op_eqE c.toCz.u64) o2_eq (de_var 1 rfl) (de_var 2 rfl) rfl) (de_add (de_var 1 rfl) de_int) (de_callB (call_max2 c.calm) oA_max2 T.n_max bt_max (da_cons (de_var 1 rfl) (da_cons (de_var 2 rfl) da_nil)))))
theorem sc_needed : FnScope ["tree"] ["tree"] (defScope s_needed) := ⟨rfl, rfl, rfl, by decide +kernel, rfl, by decide +kernel, by decide +kernel⟩
theorem ok_needed (T : Txt K mg) (g_check_tree : FnD P w K mg base "check_tree" 26 1 [] m_check_tree) (g_needed_of : FnD P w K mg base "needed_of" 24 1 [] m_needed_of) (F : Fun K "needed" "needed" s_needed f fd) (hm : mg "needed" = some (.ref f)) (bi : Binds K fd ["tree"] []) : FnD P w K mg base "needed" 27 1 [] m_needed := by
  refine fnD_of (N := ["tree"]) (b := b_needed) F hm bi sc_needed rfl fun cdv A out s H E c hp tk => ?_
  have hN := sc_needed.nd
  unfold b_needed
  refine dss_cons (ds_expr (de_ofN (dn_call g_check_tree c (by decide) tk (da_cons (de_var 0 rfl) da_nil)))) ?_
  exact dss_one (ds_retN (dn_call g_needed_of c (by decide) tk (da_cons (de_var 0 rfl) da_nil)))
theorem sc_worked : FnScope ["tree", "free", "first", "second", "rows"] ["tree", "free"] (defScope s_worked) := ⟨rfl, rfl, rfl, by decide +kernel, rfl, by decide +kernel, by decide +kernel⟩
theorem ok_worked (T : Txt K mg) (g_needed_of : FnD P w K mg base "needed_of" 24 1 [] m_needed_of) (F : Fun K "worked" "worked" s_worked f fd) (hm : mg "worked" = some (.ref f)) (bi : Binds K fd ["tree", "free"] []) : ∀ n : Nat, FnD P w K mg base "worked" (25 + n) 2 [] (recM r_worked n) := by
  intro n
  induction n with
  | zero => exact fnD_bot F hm bi rfl
  | succ n g_worked =>
  refine fnD_of (k := 25 + n) (N := ["tree", "free", "first", "second", "rows"]) (b := b_worked (recM r_worked n)) F hm bi sc_worked rfl fun cdv A out s H E c hp tk => ?_
  have hN := sc_worked.nd
  unfold b_worked
  refine dss_cons (ds_if (dt_not (dt_tru (de_isT (de_var 0 rfl) (by decide) T.n_isinstance T.n_tuple bt_tuple bt_isinstance))) (dss_one (ds_retN (dn_lst (da_cons (de_tup (da_cons de_str (da_cons (de_ix (de_var 1 rfl) de_int) (da_cons (de_var 0 rfl) da_nil)))) da_nil)))) dss_nil) ?_
  refine dss_cons (ds_asgU c.calm (de_var 0 rfl) (dgs_cons (dg_name 2 hN) (dgs_cons (dg_name 3 hN) dgs_nil))) ?_
  refine dss_cons (ds_if (dt_cmp op_ge o2_ge (de_ofN (dn_call g_needed_of c (by omega) tk (da_cons (de_var 2 rfl) da_nil))) (de_ofN (dn_call g_needed_of c (by omega) tk (da_cons (de_var 3 rfl) da_nil))) rfl) (dss_cons (ds_set 4 hN (de_add (de_ofN (dn_call g_worked c (by omega) tk (da_cons (de_var 2 rfl) (da_cons (de_var 1 rfl) da_nil)))) (de_ofN (dn_call g_worked c (by omega) tk (da_cons (de_var 3 rfl) (da_cons (de_sl (de_var 1 rfl) (do_some de_int) do_none) da_nil)))))) (dss_one (ds_ret (de_add (de_var 4 rfl) (de_lst (da_cons (de_tup (da_cons de_str (da_cons (de_ix (de_var 1 rfl) de_int) (da_cons (de_ix (de_var 1 rfl) de_int) (da_cons (de_ix (de_var 1 rfl) de_int) da_nil))))) da_nil)))))) dss_nil) ?_
  refine dss_cons (ds_set 4 hN (de_add (de_ofN (dn_call g_worked c (by omega) tk (da_cons (de_var 3 rfl) (da_cons (de_var 1 rfl) da_nil)))) (de_ofN (dn_call g_worked c (by omega) tk (da_cons (de_var 2 rfl) (da_cons (de_sl (de_var 1 rfl) (do_some de_int) do_none) da_nil)))))) ?_
  exact dss_one (ds_ret (de_add (de_var 4 rfl) (de_lst (da_cons (de_tup (da_cons de_str (da_cons (de_ix (de_var 1 rfl) de_int) (da_cons (de_ix (de_var 1 rfl) de_int) (da_cons (de_ix (de_var 1 rfl) de_int) da_nil))))) da_nil))))
theorem sc_deeds_for : FnScope ["tree"] ["tree"] (defScope s_deeds_for) := ⟨rfl, rfl, rfl, by decide +kernel, rfl, by decide +kernel, by decide +kernel⟩
theorem ok_deeds_for (T : Txt K mg) (g_check_tree : FnD P w K mg base "check_tree" 26 1 [] m_check_tree) (g_needed_of : FnD P w K mg base "needed_of" 24 1 [] m_needed_of) (g_worked : FnD P w K mg base "worked" 45 2 [] m_worked) (F : Fun K "deeds_for" "deeds_for" s_deeds_for f fd) (hm : mg "deeds_for" = some (.ref f)) (bi : Binds K fd ["tree"] []) : FnD P w K mg base "deeds_for" 46 1 [] m_deeds_for := by
  refine fnD_of (N := ["tree"]) (b := b_deeds_for) F hm bi sc_deeds_for rfl fun cdv A out s H E c hp tk => ?_
  have hN := sc_deeds_for.nd
  unfold b_deeds_for
  refine dss_cons (ds_expr (de_ofN (dn_call g_check_tree c (by decide) tk (da_cons (de_var 0 rfl) da_nil)))) ?_
  exact dss_one (ds_ret (de_callTy call_tuple_of oA_tuple T.n_tuple bt_tuple (da_cons (de_ofN (dn_call g_worked c (by decide) tk (da_cons (de_var 0 rfl) (da_cons (de_lrng1 c.calm (de_ofN (dn_call g_needed_of c (by decide) tk (da_cons (de_var 0 rfl) da_nil))) T.n_list T.n_range) da_nil)))) da_nil)))
theorem sc_run_of : FnScope ["many", "deeds", "found", "deed", "pair", "part"] ["many", "deeds"] (defScope s_run_of) := ⟨rfl, rfl, rfl, by decide +kernel, rfl, by decide +kernel, by decide +kernel⟩
theorem ok_run_of (T : Txt K mg) (g_is_integer : FnD P w K mg base "is_integer" 4 1 [] m_is_integer) (g_is_tree : FnD P w K mg base "is_tree" 25 2 [] m_is_tree) (F : Fun K "run_of" "run_of" s_run_of f fd) (hm : mg "run_of" = some (.ref f)) (bi : Binds K fd ["many", "deeds"] []) : FnD P w K mg base "run_of" 26 2 [] m_run_of := by
  refine fnD_of (N := ["many", "deeds", "found", "deed", "pair", "part"]) (b := b_run_of) F hm bi sc_run_of rfl fun cdv A out s H E c hp tk => ?_
  have hN := sc_run_of.nd
  unfold b_run_of
  refine dss_cons (ds_if (dt_not (dt_tru (de_isT (de_var 1 rfl) (by decide) T.n_isinstance T.n_tuple bt_tuple bt_isinstance))) (dss_one (ds_ret de_non)) dss_nil) ?_
  refine dss_cons (ds_setN 2 hN (dn_mul (de_lst (da_cons de_non da_nil)) (de_var 0 rfl))) ?_
  refine dss_cons (ds_for hp c.calm (di_seq (de_var 1 rfl)) (dg_name 3 hN) (dss_cons (ds_if (DW.dt (dw_or (dt_not (dt_tru (de_isT (de_var 3 rfl) (by decide) T.n_isinstance T.n_tuple bt_tuple bt_isinstance))) (dw_or (dt_cmp (op_notInA c.toCz) o2_notIn (de_callB call_len oA_len T.n_len bt_len (da_cons (de_var 3 rfl) da_nil)) (de_tup (da_cons de_int (da_cons de_int da_nil))) rfl) (dw_or1 (dt_not (dt_tru (de_callB (cr_all c.calm) oA_all T.n_all bt_all (da_cons (de_ofN (dn_lc (n := 6) (S := [0, 1, 2, 3, 4]) [("part", 5)] c.calm hN (di_seq (de_sl (de_var 3 rfl) (do_some de_int) do_none)) (by kernel_rfl) (by decide) fun _ _ _ _ _ => ⟨⟨_, (dg_name 5 hN)⟩, True.intro, ⟨_, (de_ofN (dn_call g_is_integer (blkC_ctx c) (by decide) takes0 (da_cons (de_var 5 rfl) da_nil)))⟩⟩)) da_nil)))))))) (dss_one (ds_ret de_non)) dss_nil) (dss_cons (ds_if (dt_not (dt_chain de_int (dc_cons op_le o2_le (de_ix (de_var 3 rfl) de_int) (dc_one (op_ltD c.toCz) o2_lt (de_var 0 rfl))))) (dss_one (ds_ret de_non)) dss_nil) (dss_one (ds_if (DW.dt (dw_and (dt_cmp (op_eqE c.toCz.u64) o2_eq (de_ix (de_var 3 rfl) de_int) de_str rfl) (dw_and1 (dt_cmp (op_eqE c.toCz.u64) o2_eq (de_callB call_len oA_len T.n_len bt_len (da_cons (de_var 3 rfl) da_nil)) de_int rfl)))) (dss_one (ds_setIx 2 (de_ix (de_var 3 rfl) de_int) (de_ix (de_var 3 rfl) de_int) rfl)) (dss_one (ds_if (DW.dt (dw_and (dt_cmp (op_eqE c.toCz.u64) o2_eq (de_ix (de_var 3 rfl) de_int) de_str rfl) (dw_and (dt_cmp (op_eqE c.toCz.u64) o2_eq (de_callB call_len oA_len T.n_len bt_len (da_cons (de_var 3 rfl) da_nil)) de_int rfl) (dw_and (dt_chain de_int (dc_cons op_le o2_le (de_ix (de_var 3 rfl) de_int) (dc_one (op_ltD c.toCz) o2_lt (de_var 0 rfl)))) (dw_and1 (dt_chain de_int (dc_cons op_le o2_le (de_ix (de_var 3 rfl) de_int) (dc_one (op_ltD c.toCz) o2_lt (de_var 0 rfl))))))))) (dss_cons (ds_set 4 hN (de_tup (da_cons (de_ix (de_var 2 rfl) (de_ix (de_var 3 rfl) de_int)) (da_cons (de_ix (de_var 2 rfl) (de_ix (de_var 3 rfl) de_int)) da_nil)))) (dss_cons (ds_if (DW.dt (dw_or (dt_cmp (op_inA c.toCz) o2_in de_non (de_var 4 rfl) rfl) (dw_or1 (dt_not (dt_tru (de_ofN (dn_call g_is_tree c (by decide) tk (da_cons (de_var 4 rfl) (da_cons (de_globJ T.c_MAX_DEPTH) da_nil))))))))) (dss_one (ds_ret de_non)) dss_nil) (dss_one (ds_setIx 2 (de_var 4 rfl) (de_ix (de_var 3 rfl) de_int) rfl)))) (dss_one (ds_ret de_non))))))))) ?_
  exact dss_one (ds_ret (de_var 2 rfl))
theorem sc_run_deeds : FnScope ["many", "deeds", "found"] ["many", "deeds"] (defScope s_run_deeds) := ⟨rfl, rfl, rfl, by decide +kernel, rfl, by decide +kernel, by decide +kernel⟩
theorem ok_run_deeds (T : Txt K mg) (g_is_integer : FnD P w K mg base "is_integer" 4 1 [] m_is_integer) (g_run_of : FnD P w K mg base "run_of" 26 2 [] m_run_of) (e_ArgumentError : ErrX P w K mg base "ArgumentError") (F : Fun K "run_deeds" "run_deeds" s_run_deeds f fd) (hm : mg "run_deeds" = some (.ref f)) (bi : Binds K fd ["many", "deeds"] []) : FnD P w K mg base "run_deeds" 27 2 [] m_run_deeds := by
  refine fnD_of (N := ["many", "deeds", "found"]) (b := b_run_deeds) F hm bi sc_run_deeds rfl fun cdv A out s H E c hp tk => ?_
  have hN := sc_run_deeds.nd
  unfold b_run_deeds
  refine dss_cons (ds_if (DW.dt (dw_or (dt_not (dt_tru (de_ofN (dn_call g_is_integer c (by decide) tk (da_cons (de_var 0 rfl) da_nil))))) (dw_or1 (dt_not (dt_chain de_int (dc_cons op_le o2_le (de_var 0 rfl) (dc_one op_le o2_le (de_globJ T.c_MAX_SPANS)))))))) (dss_one (ds_raise e_ArgumentError c tk de_str)) dss_nil) ?_
  refine dss_cons (ds_set 2 hN (de_ofN (dn_call g_run_of c (by decide) tk (da_cons (de_var 0 rfl) (da_cons (de_var 1 rfl) da_nil))))) ?_
  refine dss_cons (ds_if (dt_cmp op_isN o2_isN (de_var 2 rfl) de_non rfl) (dss_one (ds_raise e_ArgumentError c tk de_str)) dss_nil) ?_
  exact dss_one (ds_ret (de_callTy call_tuple_of oA_tuple T.n_tuple bt_tuple (da_cons (de_var 2 rfl) da_nil)))
theorem sc_accept_deeds : FnScope ["tree", "many", "deeds", "found"] ["tree", "many", "deeds"] (defScope s_accept_deeds) := ⟨rfl, rfl, rfl, by decide +kernel, rfl, by decide +kernel, by decide +kernel⟩
theorem ok_accept_deeds (T : Txt K mg) (g_check_tree : FnD P w K mg base "check_tree" 26 1 [] m_check_tree) (g_is_integer : FnD P w K mg base "is_integer" 4 1 [] m_is_integer) (g_run_of : FnD P w K mg base "run_of" 26 2 [] m_run_of) (e_ArgumentError : ErrX P w K mg base "ArgumentError") (e_PaperError : ErrX P w K mg base "PaperError") (F : Fun K "accept_deeds" "accept_deeds" s_accept_deeds f fd) (hm : mg "accept_deeds" = some (.ref f)) (bi : Binds K fd ["tree", "many", "deeds"] []) : FnD P w K mg base "accept_deeds" 27 3 [] m_accept_deeds := by
  refine fnD_of (N := ["tree", "many", "deeds", "found"]) (b := b_accept_deeds) F hm bi sc_accept_deeds rfl fun cdv A out s H E c hp tk => ?_
  have hN := sc_accept_deeds.nd
  unfold b_accept_deeds
  refine dss_cons (ds_expr (de_ofN (dn_call g_check_tree c (by decide) tk (da_cons (de_var 0 rfl) da_nil)))) ?_
  refine dss_cons (ds_if (DW.dt (dw_or (dt_not (dt_tru (de_ofN (dn_call g_is_integer c (by decide) tk (da_cons (de_var 1 rfl) da_nil))))) (dw_or1 (dt_not (dt_chain de_int (dc_cons op_le o2_le (de_var 1 rfl) (dc_one op_le o2_le (de_globJ T.c_MAX_SPANS)))))))) (dss_one (ds_raise e_ArgumentError c tk de_str)) dss_nil) ?_
  refine dss_cons (ds_set 3 hN (de_ofN (dn_call g_run_of c (by decide) tk (da_cons (de_var 1 rfl) (da_cons (de_var 2 rfl) da_nil))))) ?_
  refine dss_cons (ds_if (dt_cmp op_isN o2_isN (de_var 3 rfl) de_non rfl) (dss_one (ds_raise e_PaperError c tk de_str)) dss_nil) ?_
  exact dss_one (ds_if (DW.dt (dw_or (dt_not (dt_tru (de_var 3 rfl))) (dw_or1 (dt_cmp (op_neE c.toCz.u64) o2_ne (de_ix (de_var 3 rfl) de_int) (de_var 0 rfl) rfl)))) (dss_one (ds_raise e_PaperError c tk de_str)) dss_nil)
theorem sc_numbers_of : FnScope ["tree"] ["tree"] (defScope s_numbers_of) := ⟨rfl, rfl, rfl, by decide +kernel, rfl, by decide +kernel, by decide +kernel⟩
theorem ok_numbers_of (T : Txt K mg) (g_needed_of : FnD P w K mg base "needed_of" 24 1 [] m_needed_of) (F : Fun K "numbers_of" "numbers_of" s_numbers_of f fd) (hm : mg "numbers_of" = some (.ref f)) (bi : Binds K fd ["tree"] []) : ∀ n : Nat, FnD P w K mg base "numbers_of" (25 + n) 1 [] (recM r_numbers_of n) := by
  intro n
  induction n with
  | zero => exact fnD_bot F hm bi rfl
  | succ n g_numbers_of =>
  refine fnD_of (k := 25 + n) (N := ["tree"]) (b := b_numbers_of (recM r_numbers_of n)) F hm bi sc_numbers_of rfl fun cdv A out s H E c hp tk => ?_
  have hN := sc_numbers_of.nd
  unfold b_numbers_of
  refine dss_cons (ds_if (dt_not (dt_tru (de_isT (de_var 0 rfl) (by decide) T.n_isinstance T.n_tuple bt_tuple bt_isinstance))) (dss_one (ds_ret de_int)) dss_nil) ?_
  exact dss_one (ds_ret (de_tup (da_cons (de_ofN (dn_call g_needed_of c (by omega) tk (da_cons (de_var 0 rfl) da_nil))) (da_cons (de_ofN (dn_call g_numbers_of c (by omega) tk (da_cons (de_ix (de_var 0 rfl) de_int) da_nil))) (da_cons (de_ofN (dn_call g_numbers_of c (by omega) tk (da_cons (de_ix (de_var 0 rfl) de_int) da_nil))) da_nil)))))
theorem sc_numbered : FnScope ["tree"] ["tree"] (defScope s_numbered) := ⟨rfl, rfl, rfl, by decide +kernel, rfl, by decide +kernel, by decide +kernel⟩
theorem ok_numbered (T : Txt K mg) (g_check_tree : FnD P w K mg base "check_tree" 26 1 [] m_check_tree) (g_numbers_of : FnD P w K mg base "numbers_of" 45 1 [] m_numbers_of) (F : Fun K "numbered" "numbered" s_numbered f fd) (hm : mg "numbered" = some (.ref f)) (bi : Binds K fd ["tree"] []) : FnD P w K mg base "numbered" 46 1 [] m_numbered := by
  refine fnD_of (N := ["tree"]) (b := b_numbered) F hm bi sc_numbered rfl fun cdv A out s H E c hp tk => ?_
  have hN := sc_numbered.nd
  unfold b_numbered
  refine dss_cons (ds_expr (de_ofN (dn_call g_check_tree c (by decide) tk (da_cons (de_var 0 rfl) da_nil)))) ?_
  exact dss_one (ds_retN (dn_call g_numbers_of c (by decide) tk (da_cons (de_var 0 rfl) da_nil)))
theorem sc_are_numbers : FnScope ["tree", "numbers", "one", "other", "part"] ["tree", "numbers"] (defScope s_are_numbers) := ⟨rfl, rfl, rfl, by decide +kernel, rfl, by decide +kernel, by decide +kernel⟩
theorem ok_are_numbers (T : Txt K mg) (g_is_integer : FnD P w K mg base "is_integer" 4 1 [] m_is_integer) (F : Fun K "are_numbers" "are_numbers" s_are_numbers f fd) (hm : mg "are_numbers" = some (.ref f)) (bi : Binds K fd ["tree", "numbers"] []) : ∀ n : Nat, FnD P w K mg base "are_numbers" (5 + n) 2 [] (recM r_are_numbers n) := by
  intro n
  induction n with
  | zero => exact fnD_bot F hm bi rfl
  | succ n g_are_numbers =>
  refine fnD_of (k := 5 + n) (N := ["tree", "numbers", "one", "other", "part"]) (b := b_are_numbers (recM r_are_numbers n)) F hm bi sc_are_numbers rfl fun cdv A out s H E c hp tk => ?_
  have hN := sc_are_numbers.nd
  unfold b_are_numbers
  refine dss_cons (ds_if (dt_not (dt_tru (de_isT (de_var 0 rfl) (by decide) T.n_isinstance T.n_tuple bt_tuple bt_isinstance))) (dss_one (ds_ret (de_and (de_ofN (dn_call g_is_integer c (by omega) tk (da_cons (de_var 1 rfl) da_nil))) (de_one (de_cmp (op_eqE c.toCz.u64) o2_eq (de_var 1 rfl) de_int rfl))))) dss_nil) ?_
  refine dss_cons (ds_if (DW.dt (dw_or (dt_not (dt_tru (de_isT (de_var 1 rfl) (by decide) T.n_isinstance T.n_tuple bt_tuple bt_isinstance))) (dw_or (dt_cmp (op_neE c.toCz.u64) o2_ne (de_callB call_len oA_len T.n_len bt_len (da_cons (de_var 1 rfl) da_nil)) de_int rfl) (dw_or1 (dt_not (dt_tru (de_ofN (dn_call g_is_integer c (by omega) tk (da_cons (de_ix (de_var 1 rfl) de_int) da_nil))))))))) (dss_one (ds_ret de_bl)) dss_nil) ?_
  refine dss_cons (ds_if (DW.dt (dw_or (dt_not (dt_tru (de_ofN (dn_call g_are_numbers c (by omega) tk (da_cons (de_ix (de_var 0 rfl) de_int) (da_cons (de_ix (de_var 1 rfl) de_int) da_nil)))))) (dw_or1 (dt_not (dt_tru (de_ofN (dn_call g_are_numbers c (by omega) tk (da_cons (de_ix (de_var 0 rfl) de_int) (da_cons (de_ix (de_var 1 rfl) de_int) da_nil))))))))) (dss_one (ds_ret de_bl)) dss_nil) ?_
  refine dss_cons (ds_asgU c.calm (de_ofN (dn_lc (n := 5) (S := [0, 1, 2, 3]) [("part", 4)] c.calm hN (di_seq (de_sl (de_var 1 rfl) (do_some de_int) do_none)) (by kernel_rfl) (by decide) fun _ _ _ _ _ => ⟨⟨_, (dg_name 4 hN)⟩, True.intro, ⟨_, (de_if (dt_tru (de_ofN (dn_call g_is_integer (blkC_ctx c) (by omega) takes0 (da_cons (de_var 4 rfl) da_nil)))) (de_var 4 rfl) (de_ix (de_var 4 rfl) de_int))⟩⟩)) (dgs_cons (dg_name 2 hN) (dgs_cons (dg_name 3 hN) dgs_nil))) ?_
  exact dss_one (ds_ret (de_cmp (op_eqE c.toCz.u64) o2_eq (de_ix (de_var 1 rfl) de_int) (de_if (dt_cmp (op_eqE c.toCz.u64) o2_eq (de_var 2 rfl) (de_var 3 rfl) rfl) (de_add (de_var 2 rfl) de_int) (de_callB (call_max2 c.calm) oA_max2 T.n_max bt_max (da_cons (de_var 2 rfl) (da_cons (de_var 3 rfl) da_nil)))) rfl))
theorem sc_accept_numbers : FnScope ["tree", "numbers"] ["tree", "numbers"] (defScope s_accept_numbers) := ⟨rfl, rfl, rfl, by decide +kernel, rfl, by decide +kernel, by decide +kernel⟩
theorem ok_accept_numbers (T : Txt K mg) (g_are_numbers : FnD P w K mg base "are_numbers" 25 2 [] m_are_numbers) (g_check_tree : FnD P w K mg base "check_tree" 26 1 [] m_check_tree) (e_PaperError : ErrX P w K mg base "PaperError") (F : Fun K "accept_numbers" "accept_numbers" s_accept_numbers f fd) (hm : mg "accept_numbers" = some (.ref f)) (bi : Binds K fd ["tree", "numbers"] []) : FnD P w K mg base "accept_numbers" 27 2 [] m_accept_numbers := by
  refine fnD_of (N := ["tree", "numbers"]) (b := b_accept_numbers) F hm bi sc_accept_numbers rfl fun cdv A out s H E c hp tk => ?_
  have hN := sc_accept_numbers.nd
  unfold b_accept_numbers
  refine dss_cons (ds_expr (de_ofN (dn_call g_check_tree c (by decide) tk (da_cons (de_var 0 rfl) da_nil)))) ?_
  exact dss_one (ds_if (dt_not (dt_tru (de_ofN (dn_call g_are_numbers c (by decide) tk (da_cons (de_var 0 rfl) (da_cons (de_var 1 rfl) da_nil)))))) (dss_one (ds_raise e_PaperError c tk de_str)) dss_nil)
theorem sc__law_start : FnScope ["script", "seed", "cell"] ["script"] (defScope s__law_start) := ⟨rfl, rfl, rfl, by decide +kernel, rfl, by decide +kernel, by decide +kernel⟩
theorem ok__law_start (T : Txt K mg) (F : Fun K "_law_start" "_law_start" s__law_start f fd) : FnG P w K mg base 4 f fd ["script"] (spStart K) := by
  refine fnG_of (N := ["script", "seed", "cell"]) F sc__law_start (fun h => by obtain ⟨a, ns, rfl, _⟩ := h; rfl) fun cdv A out s H vs Q E c h => ⟨tStart K, ?_, start_mean h⟩
  have hN := sc__law_start.nd
  have hp : PassesOwn (model P w) (bodyX P w K mg base ["script", "seed", "cell"] "_law_start" s__law_start f cdv A out s H E).A (bodyX P w K mg base ["script", "seed", "cell"] "_law_start" s__law_start f cdv A out s H E).env (bodyX P w K mg base ["script", "seed", "cell"] "_law_start" s__law_start f cdv A out s H E).xe := passes_of rfl
  exact pss_cons (ps_set (i := 1) hN rfl (by first | exact Or.inl rfl | exact Or.inr rfl) pe_int) (pss_cons (ps_for hp c.calm (pi_list (pe_var (i := 0) rfl (by first | exact Or.inl rfl | exact Or.inr (Or.inl rfl)))) (pg_name (i := 2) hN rfl (by first | exact Or.inl rfl | exact Or.inr rfl))
    (pss_one (ps_set (i := 1) hN rfl (by first | exact Or.inl rfl | exact Or.inr rfl) (pe_op op_add (pe_op op_mod (pe_callTy call_int1 rfl T.n_int bt_int (pa_cons (pe_op op_add (pe_op op_mul (pe_var (i := 1) rfl (by first | exact Or.inl rfl | exact Or.inr (Or.inl rfl))) pe_int) (pe_var (i := 2) rfl (by first | exact Or.inl rfl | exact Or.inr (Or.inl rfl)))) pa_nil)) pe_int) pe_int))))
    (pss_one (ps_ret (pe_lst (pa_cons (pe_callTy call_list_of rfl T.n_list bt_list (pa_cons (pe_var (i := 0) rfl (by first | exact Or.inl rfl | exact Or.inr (Or.inl rfl))) pa_nil)) (pa_cons pe_int (pa_cons pe_int (pa_cons (pe_var (i := 1) rfl (by first | exact Or.inl rfl | exact Or.inr (Or.inl rfl))) pa_nil))))))))
theorem sc__law_draw : FnScope ["state", "many", "value"] ["state", "many"] (defScope s__law_draw) := ⟨rfl, rfl, rfl, by decide +kernel, rfl, by decide +kernel, by decide +kernel⟩
theorem ok__law_draw (T : Txt K mg) (F : Fun K "_law_draw" "_law_draw" s__law_draw f fd) (hm : mg "_law_draw" = some (.ref f)) (bi : Binds K fd ["state", "many"] []) : FnD P w K mg base "_law_draw" 4 2 [0] m__law_draw := by
  refine fnD_of (N := ["state", "many", "value"]) (b := b__law_draw) F hm bi sc__law_draw rfl fun cdv A out s H E c hp tk => ?_
  have hN := sc__law_draw.nd
  unfold b__law_draw
  refine dss_cons (ds_if (DW.dt (dw_and (dt_cmp (op_eqE c.toCz.u64) o2_eq (de_ix (de_var 0 rfl) de_int) de_int rfl) (dw_and1 (dt_cmp op_ge o2_ge (de_ix (de_var 0 rfl) de_int) (de_callB call_len oA_len T.n_len bt_len (da_cons (de_ix (de_var 0 rfl) de_int) da_nil)) rfl)))) (dss_cons (ds_setIx 0 (de_mod (de_callTy call_int1 oA_int T.n_int bt_int (da_cons (de_add (de_mul (de_ix (de_var 0 rfl) de_int) de_int) de_int) da_nil)) de_int) de_int rfl) (dss_one (ds_ret (de_mod (de_callTy call_int1 oA_int T.n_int bt_int (da_cons (de_fdiv (de_ix (de_var 0 rfl) de_int) de_int) da_nil)) (de_var 1 rfl))))) dss_nil) ?_
  refine dss_cons (ds_if (dt_cmp (op_eqE c.toCz.u64) o2_eq (de_ix (de_var 0 rfl) de_int) de_int rfl) (dss_cons (ds_setIx 0 (de_callB call_abs oA_abs T.n_abs bt_abs (da_cons (de_ix (de_ix (de_var 0 rfl) de_int) (de_ix (de_var 0 rfl) de_int)) da_nil)) de_int rfl) (dss_one (ds_setIx 0 (de_add (de_ix (de_var 0 rfl) de_int) de_int) de_int rfl))) dss_nil) ?_
  refine dss_cons (ds_set 2 hN (de_mod (de_callTy call_int1 oA_int T.n_int bt_int (da_cons (de_ix (de_var 0 rfl) de_int) da_nil)) (de_var 1 rfl))) ?_
  refine dss_cons (ds_setIx 0 (de_fdiv (de_ix (de_var 0 rfl) de_int) (de_var 1 rfl)) de_int rfl) ?_
  exact dss_one (ds_ret (de_var 2 rfl))
theorem sc__law_pick : FnScope ["state", "some"] ["state", "some"] (defScope s__law_pick) := ⟨rfl, rfl, rfl, by decide +kernel, rfl, by decide +kernel, by decide +kernel⟩
theorem ok__law_pick (T : Txt K mg) (g__law_draw : FnD P w K mg base "_law_draw" 4 2 [0] m__law_draw) (F : Fun K "_law_pick" "_law_pick" s__law_pick f fd) (hm : mg "_law_pick" = some (.ref f)) (bi : Binds K fd ["state", "some"] []) : FnD P w K mg base "_law_pick" 5 2 [0] m__law_pick := by
  refine fnD_of (N := ["state", "some"]) (b := b__law_pick) F hm bi sc__law_pick rfl fun cdv A out s H E c hp tk => ?_
  have hN := sc__law_pick.nd
  unfold b__law_pick
  exact dss_one (ds_ret (de_ix (de_var 1 rfl) (de_ofN (dn_call g__law_draw c (by decide) tk (da_cons (de_var 0 rfl) (da_cons (de_callB call_len oA_len T.n_len bt_len (da_cons (de_var 1 rfl) da_nil)) da_nil))))))
theorem sc__law_same : FnScope ["actual", "due"] ["actual", "due"] (defScope s__law_same) := ⟨rfl, rfl, rfl, by decide +kernel, rfl, by decide +kernel, by decide +kernel⟩
theorem ok__law_same (T : Txt K mg) (F : Fun K "_law_same" "_law_same" s__law_same f fd) (hm : mg "_law_same" = some (.ref f)) (bi : Binds K fd ["actual", "due"] []) : FnD P w K mg base "_law_same" 4 2 [] m__law_same := by
  refine fnD_of (N := ["actual", "due"]) (b := b__law_same) F hm bi sc__law_same rfl fun cdv A out s H E c hp tk => ?_
  have hN := sc__law_same.nd
  unfold b__law_same
  exact dss_one (ds_ret (de_and (de_cmp (op_eqE c.toCz.u64) o2_eq (de_var 0 rfl) (de_var 1 rfl) rfl) (de_one (de_cmp (op_eqE c.toCz.u64) o2_eq (de_callB (cr_repr c.toCz) oA_repr T.n_repr bt_repr (da_cons (de_var 0 rfl) da_nil)) (de_callB (cr_repr c.toCz) oA_repr T.n_repr bt_repr (da_cons (de_var 1 rfl) da_nil)) rfl))))
theorem sc__law_word : FnScope ["error", "heads", "found"] ["error"] (defScope s__law_word) := ⟨rfl, rfl, rfl, by decide +kernel, rfl, by decide +kernel, by decide +kernel⟩
theorem ok__law_word (T : Txt K mg) (et : ErrTab K mg errs) (F : Fun K "_law_word" "_law_word" s__law_word f fd) (hm : mg "_law_word" = some (.ref f)) (bi : Binds K fd ["error"] []) : FnW P w K mg base "_law_word" 4 1 m__law_word := by
  refine fnW_of (N := ["error", "heads", "found"]) (b := b__law_word) F hm bi sc__law_word rfl fun cdv A out s H a dd oe cl cz hd => ?_
  have hN := sc__law_word.nd
  unfold b__law_word
  refine dss_cons (ds_set 1 hN (de_lst (da_cons de_str (da_cons de_str (da_cons de_str (da_cons de_str da_nil)))))) ?_
  refine dss_cons (ds_set 2 hN (de_lst (da_cons (DEx.de (de_isExc hd et rfl (.inr (by decide)) T.n_isinstance)) (da_cons (DEx.de (de_isExc hd et rfl (.inr (by decide)) T.n_isinstance)) (da_cons (DEx.de (de_isExc hd et rfl (.inr (by decide)) T.n_isinstance)) (da_cons (DEx.de (de_isExc hd et rfl (.inr (by decide)) T.n_isinstance)) da_nil)))))) ?_
  exact dss_one (ds_ret (de_if (DW.dt (dw_and (dt_cmp (op_eqE cz.u64) o2_eq (de_count cz (de_var 2 rfl) (da_cons de_bl da_nil)) de_int rfl) (dw_and1 (dt_tru (DEx.de (de_isExc hd et rfl (.inl rfl) T.n_isinstance)))))) (de_add (de_ix (de_var 1 rfl) (de_index cz (de_var 2 rfl) (da_cons de_bl da_nil))) (DEx.de (de_excAt hd rfl))) de_str))
theorem sc__law_asked : FnScope ["way", "some", "error"] ["way", "some"] (defScope s__law_asked) := ⟨rfl, rfl, rfl, by decide +kernel, rfl, by decide +kernel, by decide +kernel⟩
theorem ok__law_asked (T : Txt K mg) (g__law_word : FnW P w K mg base "_law_word" 4 1 m__law_word) (tb : ∀ x n S m, tab x = some (n, S, m) → FnD P w K mg base x 46 n S m) (et : ErrTab K mg errs) (F : Fun K "_law_asked" "_law_asked" s__law_asked f fd) (hm : mg "_law_asked" = some (.ref f)) (bi : Binds K fd ["way", "some"] []) : FnD P w K mg base "_law_asked" 47 2 [] m__law_asked := by
  refine fnD_of (N := ["way", "some", "error"]) (b := b__law_asked) F hm bi sc__law_asked rfl fun cdv A out s H E c hp tk => ?_
  have hN := sc__law_asked.nd
  unfold b__law_asked
  exact dss_one (ds_tryAs c et tk hN rfl (i := 2) (by decide) (par_ret par__law_word) (fun _ _ _ c1 tk1 hp => (dss_cons (ds_if (dt_cmp (op_ltD c1.toCz) o2_lt (de_callB call_len oA_len T.n_len bt_len (da_cons (de_var 1 rfl) da_nil)) de_int rfl) (dss_one (ds_ret (de_if (dt_cmp (op_eqE c1.toCz.u64) o2_eq (de_callB call_len oA_len T.n_len bt_len (da_cons (de_var 1 rfl) da_nil)) de_int rfl) (de_lst (da_cons (de_ofN (dn_callV ⟨tb⟩ c1 (by decide) tk1 rfl (da_cons (de_ix (de_var 1 rfl) de_int) da_nil))) da_nil)) (de_lst (da_cons (de_ofN (dn_callV ⟨tb⟩ c1 (by decide) tk1 rfl (da_cons (de_ix (de_var 1 rfl) de_int) (da_cons (de_ix (de_var 1 rfl) de_int) da_nil)))) da_nil))))) dss_nil) (dss_cons (ds_if (dt_cmp (op_ltD c1.toCz) o2_lt (de_callB call_len oA_len T.n_len bt_len (da_cons (de_var 1 rfl) da_nil)) de_int rfl) (dss_one (ds_ret (de_if (dt_cmp (op_eqE c1.toCz.u64) o2_eq (de_callB call_len oA_len T.n_len bt_len (da_cons (de_var 1 rfl) da_nil)) de_int rfl) (de_lst (da_cons (de_ofN (dn_callV ⟨tb⟩ c1 (by decide) tk1 rfl (da_cons (de_ix (de_var 1 rfl) de_int) (da_cons (de_ix (de_var 1 rfl) de_int) (da_cons (de_ix (de_var 1 rfl) de_int) da_nil))))) da_nil)) (de_lst (da_cons (de_ofN (dn_callV ⟨tb⟩ c1 (by decide) tk1 rfl (da_cons (de_ix (de_var 1 rfl) de_int) (da_cons (de_ix (de_var 1 rfl) de_int) (da_cons (de_ix (de_var 1 rfl) de_int) (da_cons (de_ix (de_var 1 rfl) de_int) da_nil)))))) da_nil))))) dss_nil) (dss_one (ds_retN (dn_lst (da_cons (de_ofN (dn_callV ⟨tb⟩ c1 (by decide) tk1 rfl (da_cons (de_ix (de_var 1 rfl) de_int) (da_cons (de_ix (de_var 1 rfl) de_int) (da_cons (de_ix (de_var 1 rfl) de_int) (da_cons (de_ix (de_var 1 rfl) de_int) (da_cons (de_ix (de_var 1 rfl) de_int) da_nil))))))) da_nil))))))) (fun a dd cl _ _ hc cz hd => (dss_one (ds_retN (dn_callW g__law_word cz (by decide) hd (da_cons (de_var 2 rfl) da_nil))))) (h0 := T.h_MemoryFault))
theorem sc__law_tree : FnScope ["state", "depth", "full", "low", "pair"] ["state", "depth", "full"] (defScope s__law_tree) := ⟨rfl, rfl, rfl, by decide +kernel, rfl, by decide +kernel, by decide +kernel⟩
theorem ok__law_tree (T : Txt K mg) (g__law_draw : FnD P w K mg base "_law_draw" 4 2 [0] m__law_draw) (g__law_pick : FnD P w K mg base "_law_pick" 5 2 [0] m__law_pick) (F : Fun K "_law_tree" "_law_tree" s__law_tree f fd) (hm : mg "_law_tree" = some (.ref f)) (bi : Binds K fd ["state", "depth", "full"] []) : ∀ n : Nat, FnD P w K mg base "_law_tree" (6 + n) 3 [0] (recM r__law_tree n) := by
  intro n
  induction n with
  | zero => exact fnD_bot F hm bi rfl
  | succ n g__law_tree =>
  refine fnD_of (k := 6 + n) (N := ["state", "depth", "full", "low", "pair"]) (b := b__law_tree (recM r__law_tree n)) F hm bi sc__law_tree rfl fun cdv A out s H E c hp tk => ?_
  have hN := sc__law_tree.nd
  unfold b__law_tree
  refine dss_cons (ds_if (DW.dt (dw_or (dt_cmp (op_eqE c.toCz.u64) o2_eq (de_var 1 rfl) de_int rfl) (dw_or1 (DW.dt (dw_and (dt_not (dt_tru (de_var 2 rfl))) (dw_and1 (dt_cmp (op_eqE c.toCz.u64) o2_eq (de_ofN (dn_call g__law_draw c (by omega) tk (da_cons (de_var 0 rfl) (da_cons de_int da_nil)))) de_int rfl))))))) (dss_one (ds_retN (dn_call g__law_pick c (by omega) tk (da_cons (de_var 0 rfl) (da_cons (de_lst (da_cons de_int (da_cons de_int (da_cons (de_neg de_int) (da_cons (de_pow de_int de_int) (da_cons (de_ofN (dn_call g__law_draw c (by omega) tk (da_cons (de_var 0 rfl) (da_cons de_int da_nil)))) da_nil)))))) da_nil))))) dss_nil) ?_
  refine dss_cons (ds_set 3 hN (de_ofN (dn_call g__law_pick c (by omega) tk (da_cons (de_var 0 rfl) (da_cons (de_lst (da_cons (de_sub (de_var 1 rfl) de_int) (da_cons (de_sub (de_var 1 rfl) de_int) (da_cons de_int (da_cons (de_ofN (dn_call g__law_draw c (by omega) tk (da_cons (de_var 0 rfl) (da_cons (de_var 1 rfl) da_nil)))) da_nil))))) da_nil))))) ?_
  refine dss_cons (ds_set 4 hN (de_tup (da_cons (de_ofN (dn_call g__law_tree c (by omega) tk (da_cons (de_var 0 rfl) (da_cons (de_sub (de_var 1 rfl) de_int) (da_cons (de_var 2 rfl) da_nil))))) (da_cons (de_ofN (dn_call g__law_tree c (by omega) tk (da_cons (de_var 0 rfl) (da_cons (de_var 3 rfl) (da_cons (de_var 2 rfl) da_nil))))) da_nil)))) ?_
  exact dss_one (ds_ret (de_if (dt_cmp (op_eqE c.toCz.u64) o2_eq (de_ofN (dn_call g__law_draw c (by omega) tk (da_cons (de_var 0 rfl) (da_cons de_int da_nil)))) de_int rfl) (de_var 4 rfl) (de_rev (de_var 4 rfl))))
theorem sc__law_need : FnScope ["tree", "one", "other"] ["tree"] (defScope s__law_need) := ⟨rfl, rfl, rfl, by decide +kernel, rfl, by decide +kernel, by decide +kernel⟩
theorem ok__law_need (T : Txt K mg) (F : Fun K "_law_need" "_law_need" s__law_need f fd) (hm : mg "_law_need" = some (.ref f)) (bi : Binds K fd ["tree"] []) : ∀ n : Nat, FnD P w K mg base "_law_need" (4 + n) 1 [] (recM r__law_need n) := by
  intro n
  induction n with
  | zero => exact fnD_bot F hm bi rfl
  | succ n g__law_need =>
  refine fnD_of (k := 4 + n) (N := ["tree", "one", "other"]) (b := b__law_need (recM r__law_need n)) F hm bi sc__law_need rfl fun cdv A out s H E c hp tk => ?_
  have hN := sc__law_need.nd
  unfold b__law_need
  refine dss_cons (ds_if (dt_not (dt_tru (de_isT (de_var 0 rfl) (by decide) T.n_isinstance T.n_tuple bt_tuple bt_isinstance))) (dss_one (ds_ret de_int)) dss_nil) ?_
  refine dss_cons (ds_asgU c.calm (de_ofN (dn_callB cr_sortedI oN_sort T.n_sorted bt_sorted (da_cons (de_lst (da_cons (de_ofN (dn_call g__law_need c (by omega) tk (da_cons (de_ix (de_var 0 rfl) de_int) da_nil))) (da_cons (de_ofN (dn_call g__law_need c (by omega) tk (da_cons (de_ix (de_var 0 rfl) de_int) da_nil))) da_nil))) da_nil))) (dgs_cons (dg_name 1 hN) (dgs_cons (dg_name 2 hN) dgs_nil))) ?_
  exact dss_one (ds_ret (de_if (dt_cmp (op_ltD c.toCz) o2_lt (de_var 1 rfl) (de_var 2 rfl) rfl) (de_var 2 rfl) (de_add (de_var 1 rfl) de_int)))
theorem sc__law_deeds : FnScope ["tree", "first"] ["tree", "first"] (defScope s__law_deeds) := ⟨rfl, rfl, rfl, by decide +kernel, rfl, by decide +kernel, by decide +kernel⟩
theorem ok__law_deeds (T : Txt K mg) (g__law_need : FnD P w K mg base "_law_need" 24 1 [] m__law_need) (F : Fun K "_law_deeds" "_law_deeds" s__law_deeds f fd) (hm : mg "_law_deeds" = some (.ref f)) (bi : Binds K fd ["tree", "first"] []) : ∀ n : Nat, FnD P w K mg base "_law_deeds" (25 + n) 2 [] (recM r__law_deeds n) := by
  intro n
  induction n with
  | zero => exact fnD_bot F hm bi rfl
  | succ n g__law_deeds =>
  refine fnD_of (k := 25 + n) (N := ["tree", "first"]) (b := b__law_deeds (recM r__law_deeds n)) F hm bi sc__law_deeds rfl fun cdv A out s H E c hp tk => ?_
  have hN := sc__law_deeds.nd
  unfold b__law_deeds
  refine dss_cons (ds_if (dt_not (dt_tru (de_isT (de_var 0 rfl) (by decide) T.n_isinstance T.n_tuple bt_tuple bt_isinstance))) (dss_one (ds_ret (de_tup (da_cons (de_tup (da_cons de_str (da_cons (de_var 1 rfl) (da_cons (de_var 0 rfl) da_nil)))) da_nil)))) dss_nil) ?_
  refine dss_cons (ds_if (dt_cmp (op_ltD c.toCz) o2_lt (de_ofN (dn_call g__law_need c (by omega) tk (da_cons (de_ix (de_var 0 rfl) de_int) da_nil))) (de_ofN (dn_call g__law_need c (by omega) tk (da_cons (de_ix (de_var 0 rfl) de_int) da_nil))) rfl) (dss_one (ds_ret (de_add (de_add (de_ofN (dn_call g__law_deeds c (by omega) tk (da_cons (de_ix (de_var 0 rfl) de_int) (da_cons (de_var 1 rfl) da_nil)))) (de_ofN (dn_call g__law_deeds c (by omega) tk (da_cons (de_ix (de_var 0 rfl) de_int) (da_cons (de_add (de_var 1 rfl) de_int) da_nil))))) (de_tup (da_cons (de_tup (da_cons de_str (da_cons (de_var 1 rfl) (da_cons (de_add (de_var 1 rfl) de_int) (da_cons (de_var 1 rfl) da_nil))))) da_nil))))) dss_nil) ?_
  exact dss_one (ds_ret (de_add (de_add (de_ofN (dn_call g__law_deeds c (by omega) tk (da_cons (de_ix (de_var 0 rfl) de_int) (da_cons (de_var 1 rfl) da_nil)))) (de_ofN (dn_call g__law_deeds c (by omega) tk (da_cons (de_ix (de_var 0 rfl) de_int) (da_cons (de_add (de_var 1 rfl) de_int) da_nil))))) (de_tup (da_cons (de_tup (da_cons de_str (da_cons (de_var 1 rfl) (da_cons (de_var 1 rfl) (da_cons (de_add (de_var 1 rfl) de_int) da_nil))))) da_nil))))
theorem sc__law_numbers : FnScope ["tree"] ["tree"] (defScope s__law_numbers) := ⟨rfl, rfl, rfl, by decide +kernel, rfl, by decide +kernel, by decide +kernel⟩
theorem ok__law_numbers (T : Txt K mg) (g__law_need : FnD P w K mg base "_law_need" 24 1 [] m__law_need) (F : Fun K "_law_numbers" "_law_numbers" s__law_numbers f fd) (hm : mg "_law_numbers" = some (.ref f)) (bi : Binds K fd ["tree"] []) : ∀ n : Nat, FnD P w K mg base "_law_numbers" (25 + n) 1 [] (recM r__law_numbers n) := by
  intro n
  induction n with
  | zero => exact fnD_bot F hm bi rfl
  | succ n g__law_numbers =>
  refine fnD_of (k := 25 + n) (N := ["tree"]) (b := b__law_numbers (recM r__law_numbers n)) F hm bi sc__law_numbers rfl fun cdv A out s H E c hp tk => ?_
  have hN := sc__law_numbers.nd
  unfold b__law_numbers
  exact dss_one (ds_ret (de_if (dt_tru (de_isT (de_var 0 rfl) (by decide) T.n_isinstance T.n_tuple bt_tuple bt_isinstance)) (de_tup (da_cons (de_ofN (dn_call g__law_need c (by omega) tk (da_cons (de_var 0 rfl) da_nil))) (da_cons (de_ofN (dn_call g__law_numbers c (by omega) tk (da_cons (de_ix (de_var 0 rfl) de_int) da_nil))) (da_cons (de_ofN (dn_call g__law_numbers c (by omega) tk (da_cons (de_ix (de_var 0 rfl) de_int) da_nil))) da_nil)))) de_int))
theorem sc__law_depth : FnScope ["tree"] ["tree"] (defScope s__law_depth) := ⟨rfl, rfl, rfl, by decide +kernel, rfl, by decide +kernel, by decide +kernel⟩
theorem ok__law_depth (T : Txt K mg) (F : Fun K "_law_depth" "_law_depth" s__law_depth f fd) (hm : mg "_law_depth" = some (.ref f)) (bi : Binds K fd ["tree"] []) : ∀ n : Nat, FnD P w K mg base "_law_depth" (4 + n) 1 [] (recM r__law_depth n) := by
  intro n
  induction n with
  | zero => exact fnD_bot F hm bi rfl
  | succ n g__law_depth =>
  refine fnD_of (k := 4 + n) (N := ["tree"]) (b := b__law_depth (recM r__law_depth n)) F hm bi sc__law_depth rfl fun cdv A out s H E c hp tk => ?_
  have hN := sc__law_depth.nd
  unfold b__law_depth
  exact dss_one (ds_ret (de_if (dt_tru (de_isT (de_var 0 rfl) (by decide) T.n_isinstance T.n_tuple bt_tuple bt_isinstance)) (de_add de_int (de_callB (cr_max c.calm) oA_maxL T.n_max bt_max (da_cons (de_lst (da_cons (de_ofN (dn_call g__law_depth c (by omega) tk (da_cons (de_ix (de_var 0 rfl) de_int) da_nil))) (da_cons (de_ofN (dn_call g__law_depth c (by omega) tk (da_cons (de_ix (de_var 0 rfl) de_int) da_nil))) da_nil))) da_nil))) de_int))
theorem sc__law_whole : FnScope ["value"] ["value"] (defScope s__law_whole) := ⟨rfl, rfl, rfl, by decide +kernel, rfl, by decide +kernel, by decide +kernel⟩
theorem ok__law_whole (T : Txt K mg) (F : Fun K "_law_whole" "_law_whole" s__law_whole f fd) (hm : mg "_law_whole" = some (.ref f)) (bi : Binds K fd ["value"] []) : FnD P w K mg base "_law_whole" 4 1 [] m__law_whole := by
  refine fnD_of (N := ["value"]) (b := b__law_whole) F hm bi sc__law_whole rfl fun cdv A out s H E c hp tk => ?_
  have hN := sc__law_whole.nd
  unfold b__law_whole
  exact dss_one (ds_ret (de_and (de_isT (de_var 0 rfl) (by decide) T.n_isinstance T.n_int bt_int bt_isinstance) (de_one (de_not (de_isT (de_var 0 rfl) (by decide) T.n_isinstance T.n_bool bt_bool bt_isinstance)))))
theorem sc__law_done : FnScope ["many", "deeds", "found", "deed", "one", "other", "part"] ["many", "deeds"] (defScope s__law_done) := ⟨rfl, rfl, rfl, by decide +kernel, rfl, by decide +kernel, by decide +kernel⟩
theorem ok__law_done (T : Txt K mg) (g__law_depth : FnD P w K mg base "_law_depth" 24 1 [] m__law_depth) (g__law_whole : FnD P w K mg base "_law_whole" 4 1 [] m__law_whole) (F : Fun K "_law_done" "_law_done" s__law_done f fd) (hm : mg "_law_done" = some (.ref f)) (bi : Binds K fd ["many", "deeds"] []) : FnD P w K mg base "_law_done" 25 2 [] m__law_done := by
  refine fnD_of (N := ["many", "deeds", "found", "deed", "one", "other", "part"]) (b := b__law_done) F hm bi sc__law_done rfl fun cdv A out s H E c hp tk => ?_
  have hN := sc__law_done.nd
  unfold b__law_done
  refine dss_cons (ds_if (dt_not (dt_tru (de_isT (de_var 1 rfl) (by decide) T.n_isinstance T.n_tuple bt_tuple bt_isinstance))) (dss_one (ds_ret de_non)) dss_nil) ?_
  refine dss_cons (ds_setN 2 hN (dn_mul (de_lst (da_cons de_non da_nil)) (de_var 0 rfl))) ?_
  refine dss_cons (ds_for hp c.calm (di_seq (de_var 1 rfl)) (dg_name 3 hN) (dss_cons (ds_if (DW.dt (dw_or (dt_not (dt_tru (de_isT (de_var 3 rfl) (by decide) T.n_isinstance T.n_tuple bt_tuple bt_isinstance))) (dw_or (dt_not (dt_tru (de_var 3 rfl))) (dw_or1 (dt_tru (de_ofN (dn_lc (n := 7) (S := [0, 1, 2, 3, 4, 5]) [("part", 6)] c.calm hN (di_seq (de_sl (de_var 3 rfl) (do_some de_int) do_none)) (by kernel_rfl) (by decide) fun _ _ _ _ _ => ⟨⟨_, (dg_name 6 hN)⟩, ⟨_, (dt_not (dt_tru (de_ofN (dn_call g__law_whole (blkC_ctx c) (by decide) takes0 (da_cons (de_var 6 rfl) da_nil)))))⟩, ⟨_, (de_var 6 rfl)⟩⟩))))))) (dss_one (ds_ret de_non)) dss_nil) (dss_one (ds_if (DW.dt (dw_and (dt_cmp (op_eqE c.toCz.u64) o2_eq (de_callB call_len oA_len T.n_len bt_len (da_cons (de_var 3 rfl) da_nil)) de_int rfl) (dw_and (dt_cmp (op_eqE c.toCz.u64) o2_eq (de_ix (de_var 3 rfl) de_int) de_str rfl) (dw_and1 (dt_chain de_int (dc_cons op_le o2_le (de_ix (de_var 3 rfl) de_int) (dc_one (op_ltD c.toCz) o2_lt (de_var 0 rfl)))))))) (dss_one (ds_setIx 2 (de_ix (de_var 3 rfl) de_int) (de_ix (de_var 3 rfl) de_int) rfl)) (dss_one (ds_if (DW.dt (dw_and (dt_cmp (op_eqE c.toCz.u64) o2_eq (de_callB call_len oA_len T.n_len bt_len (da_cons (de_var 3 rfl) da_nil)) de_int rfl) (dw_and (dt_cmp (op_eqE c.toCz.u64) o2_eq (de_ix (de_var 3 rfl) de_int) de_str rfl) (dw_and1 (dt_not (dt_tru (de_ofN (dn_lc (n := 7) (S := [0, 1, 2, 3, 4, 5]) [("part", 6)] c.calm hN (di_seq (de_sl (de_var 3 rfl) (do_some de_int) do_none)) (by kernel_rfl) (by decide) fun _ _ _ _ _ => ⟨⟨_, (dg_name 6 hN)⟩, ⟨_, (dt_not (dt_chain de_int (dc_cons op_le o2_le (de_var 6 rfl) (dc_one (op_ltD (blkC_ctx c).toCz) o2_lt (de_var 0 rfl)))))⟩, ⟨_, (de_var 6 rfl)⟩⟩)))))))) (dss_cons (ds_swp [5, 4] ["other", "one"] c.calm hN (de_tup (da_cons (de_ix (de_var 2 rfl) (de_ix (de_var 3 rfl) de_int)) (da_cons (de_ix (de_var 2 rfl) (de_ix (de_var 3 rfl) de_int)) da_nil))) ⟨rfl, rfl, by decide, ⟨rfl, rfl, by decide, True.intro⟩⟩) (dss_cons (ds_if (DW.dt (dw_or (dt_cmp op_isN o2_isN (de_var 4 rfl) de_non rfl) (dw_or (dt_cmp op_isN o2_isN (de_var 5 rfl) de_non rfl) (dw_or1 (dt_cmp op_gt o2_gt (de_ofN (dn_call g__law_depth c (by decide) tk (da_cons (de_tup (da_cons (de_var 4 rfl) (da_cons (de_var 5 rfl) da_nil))) da_nil))) de_int rfl))))) (dss_one (ds_ret de_non)) dss_nil) (dss_one (ds_setIx 2 (de_tup (da_cons (de_var 4 rfl) (da_cons (de_var 5 rfl) da_nil))) (de_ix (de_var 3 rfl) de_int) rfl)))) (dss_one (ds_ret de_non)))))))) ?_
  exact dss_one (ds_ret (de_callTy call_tuple_of oA_tuple T.n_tuple bt_tuple (da_cons (de_var 2 rfl) da_nil)))
theorem sc__law_are_numbers : FnScope ["tree", "value", "due"] ["tree", "value"] (defScope s__law_are_numbers) := ⟨rfl, rfl, rfl, by decide +kernel, rfl, by decide +kernel, by decide +kernel⟩
theorem ok__law_are_numbers (T : Txt K mg) (g__law_numbers : FnD P w K mg base "_law_numbers" 45 1 [] m__law_numbers) (F : Fun K "_law_are_numbers" "_law_are_numbers" s__law_are_numbers f fd) (hm : mg "_law_are_numbers" = some (.ref f)) (bi : Binds K fd ["tree", "value"] []) : FnD P w K mg base "_law_are_numbers" 46 2 [] m__law_are_numbers := by
  refine fnD_of (N := ["tree", "value", "due"]) (b := b__law_are_numbers) F hm bi sc__law_are_numbers rfl fun cdv A out s H E c hp tk => ?_
  have hN := sc__law_are_numbers.nd
  unfold b__law_are_numbers
  refine dss_cons (ds_set 2 hN (de_ofN (dn_call g__law_numbers c (by decide) tk (da_cons (de_var 0 rfl) da_nil)))) ?_
  exact dss_one (ds_ret (de_and (de_cmp (op_eqE c.toCz.u64) o2_eq (de_var 1 rfl) (de_var 2 rfl) rfl) (de_one (de_cmp (op_eqE c.toCz.u64) o2_eq (de_callB (cr_repr c.toCz) oA_repr T.n_repr bt_repr (da_cons (de_var 1 rfl) da_nil)) (de_callB (cr_repr c.toCz) oA_repr T.n_repr bt_repr (da_cons (de_var 2 rfl) da_nil)) rfl))))
theorem sc__law_deeds_due : FnScope ["tree", "many", "deeds", "found"] ["tree", "many", "deeds"] (defScope s__law_deeds_due) := ⟨rfl, rfl, rfl, by decide +kernel, rfl, by decide +kernel, by decide +kernel⟩
theorem ok__law_deeds_due (T : Txt K mg) (g__law_done : FnD P w K mg base "_law_done" 25 2 [] m__law_done) (F : Fun K "_law_deeds_due" "_law_deeds_due" s__law_deeds_due f fd) (hm : mg "_law_deeds_due" = some (.ref f)) (bi : Binds K fd ["tree", "many", "deeds"] []) : FnD P w K mg base "_law_deeds_due" 26 3 [] m__law_deeds_due := by
  refine fnD_of (N := ["tree", "many", "deeds", "found"]) (b := b__law_deeds_due) F hm bi sc__law_deeds_due rfl fun cdv A out s H E c hp tk => ?_
  have hN := sc__law_deeds_due.nd
  unfold b__law_deeds_due
  refine dss_cons (ds_set 3 hN (de_ofN (dn_call g__law_done c (by decide) tk (da_cons (de_var 1 rfl) (da_cons (de_var 2 rfl) da_nil))))) ?_
  refine dss_cons (ds_if (dt_cmp op_isN o2_isN (de_var 3 rfl) de_non rfl) (dss_one (ds_ret de_str)) dss_nil) ?_
  exact dss_one (ds_ret (de_if (DW.dt (dw_and (dt_tru (de_var 3 rfl)) (dw_and (dt_cmp (op_eqE c.toCz.u64) o2_eq (de_ix (de_var 3 rfl) de_int) (de_var 0 rfl) rfl) (dw_and1 (dt_cmp (op_eqE c.toCz.u64) o2_eq (de_callB (cr_repr c.toCz) oA_repr T.n_repr bt_repr (da_cons (de_ix (de_var 3 rfl) de_int) da_nil)) (de_callB (cr_repr c.toCz) oA_repr T.n_repr bt_repr (da_cons (de_var 0 rfl) da_nil)) rfl))))) (de_lst (da_cons de_non da_nil)) de_str))
theorem sc__law_odd : FnScope ["state", "some"] ["state"] (defScope s__law_odd) := ⟨rfl, rfl, rfl, by decide +kernel, rfl, by decide +kernel, by decide +kernel⟩
theorem ok__law_odd (T : Txt K mg) (g__law_pick : FnD P w K mg base "_law_pick" 5 2 [0] m__law_pick) (F : Fun K "_law_odd" "_law_odd" s__law_odd f fd) (hm : mg "_law_odd" = some (.ref f)) (bi : Binds K fd ["state"] []) : FnD P w K mg base "_law_odd" 6 1 [0] m__law_odd := by
  refine fnD_of (N := ["state", "some"]) (b := b__law_odd) F hm bi sc__law_odd rfl fun cdv A out s H E c hp tk => ?_
  have hN := sc__law_odd.nd
  unfold b__law_odd
  refine dss_cons (ds_set 1 hN (de_lst (da_cons de_non (da_cons de_bl (da_cons de_str (da_cons de_str (da_cons (de_neg de_int) (da_cons de_int (da_cons de_int (da_cons de_int (da_cons de_int (da_cons (de_tup da_nil) (da_cons (de_tup (da_cons de_str (da_cons de_int (da_cons de_int da_nil)))) (da_cons (de_tup (da_cons de_str (da_cons de_int (da_cons de_int (da_cons de_int da_nil))))) (da_cons (de_tup (da_cons de_str (da_cons de_int (da_cons de_int (da_cons de_int da_nil))))) da_nil))))))))))))))) ?_
  exact dss_one (ds_retN (dn_call g__law_pick c (by decide) tk (da_cons (de_var 0 rfl) (da_cons (de_add (de_var 1 rfl) (de_lst (da_cons (de_tup (da_cons de_str (da_cons de_int (da_cons de_non da_nil)))) (da_cons (de_tup (da_cons de_str (da_cons de_int da_nil))) (da_cons (de_tup (da_cons de_int (da_cons de_int (da_cons de_int da_nil)))) (da_cons (de_tup (da_cons de_str (da_cons de_int (da_cons de_int da_nil)))) (da_cons (de_tup (da_cons de_str (da_cons de_int (da_cons de_bl da_nil)))) da_nil))))))) da_nil))))
theorem sc__law_spoilt : FnScope ["state", "value", "at", "deep"] ["state", "value"] (defScope s__law_spoilt) := ⟨rfl, rfl, rfl, by decide +kernel, rfl, by decide +kernel, by decide +kernel⟩
theorem ok__law_spoilt (T : Txt K mg) (g__law_draw : FnD P w K mg base "_law_draw" 4 2 [0] m__law_draw) (g__law_odd : FnD P w K mg base "_law_odd" 6 1 [0] m__law_odd) (g__law_pick : FnD P w K mg base "_law_pick" 5 2 [0] m__law_pick) (g__law_whole : FnD P w K mg base "_law_whole" 4 1 [] m__law_whole) (F : Fun K "_law_spoilt" "_law_spoilt" s__law_spoilt f fd) (hm : mg "_law_spoilt" = some (.ref f)) (bi : Binds K fd ["state", "value"] []) : ∀ n : Nat, FnD P w K mg base "_law_spoilt" (7 + n) 2 [0] (recM r__law_spoilt n) := by
  intro n
  induction n with
  | zero => exact fnD_bot F hm bi rfl
  | succ n g__law_spoilt =>
  refine fnD_of (k := 7 + n) (N := ["state", "value", "at", "deep"]) (b := b__law_spoilt (recM r__law_spoilt n)) F hm bi sc__law_spoilt rfl fun cdv A out s H E c hp tk => ?_
  have hN := sc__law_spoilt.nd
  unfold b__law_spoilt
  refine dss_cons (ds_if (DW.dt (dw_or (dt_not (dt_tru (de_isT (de_var 1 rfl) (by decide) T.n_isinstance T.n_tuple bt_tuple bt_isinstance))) (dw_or (dt_not (dt_tru (de_var 1 rfl))) (dw_or1 (dt_cmp (op_eqE c.toCz.u64) o2_eq (de_ofN (dn_call g__law_draw c (by omega) tk (da_cons (de_var 0 rfl) (da_cons de_int da_nil)))) de_int rfl))))) (dss_one (ds_ret (de_if (DW.dt (dw_and (dt_tru (de_ofN (dn_call g__law_whole c (by omega) tk (da_cons (de_var 1 rfl) da_nil)))) (dw_and1 (dt_cmp (op_eqE c.toCz.u64) o2_eq (de_ofN (dn_call g__law_draw c (by omega) tk (da_cons (de_var 0 rfl) (da_cons de_int da_nil)))) de_int rfl)))) (de_add (de_var 1 rfl) (de_ofN (dn_call g__law_pick c (by omega) tk (da_cons (de_var 0 rfl) (da_cons (de_lst (da_cons de_int (da_cons (de_neg de_int) da_nil))) da_nil))))) (de_ofN (dn_call g__law_odd c (by omega) tk (da_cons (de_var 0 rfl) da_nil)))))) dss_nil) ?_
  refine dss_cons (ds_set 2 hN (de_ofN (dn_call g__law_draw c (by omega) tk (da_cons (de_var 0 rfl) (da_cons (de_callB call_len oA_len T.n_len bt_len (da_cons (de_var 1 rfl) da_nil)) da_nil))))) ?_
  refine dss_cons (ds_set 3 hN (de_add (de_add (de_sl (de_var 1 rfl) do_none (do_some (de_var 2 rfl))) (de_tup (da_cons (de_ofN (dn_call g__law_spoilt c (by omega) tk (da_cons (de_var 0 rfl) (da_cons (de_ix (de_var 1 rfl) (de_var 2 rfl)) da_nil)))) da_nil))) (de_sl (de_var 1 rfl) (do_some (de_add (de_var 2 rfl) de_int)) do_none))) ?_
  exact dss_one (ds_retN (dn_call g__law_pick c (by omega) tk (da_cons (de_var 0 rfl) (da_cons (de_lst (da_cons (de_add (de_sl (de_var 1 rfl) do_none (do_some (de_var 2 rfl))) (de_sl (de_var 1 rfl) (do_some (de_add (de_var 2 rfl) de_int)) do_none)) (da_cons (de_add (de_var 1 rfl) (de_sl (de_var 1 rfl) (do_some (de_var 2 rfl)) (do_some (de_add (de_var 2 rfl) de_int)))) (da_cons (de_rev (de_var 1 rfl)) (da_cons (de_add (de_add (de_sl (de_var 1 rfl) do_none (do_some (de_var 2 rfl))) (de_tup (da_cons (de_ofN (dn_call g__law_odd c (by omega) tk (da_cons (de_var 0 rfl) da_nil))) da_nil))) (de_sl (de_var 1 rfl) (do_some (de_add (de_var 2 rfl) de_int)) do_none)) (da_cons (de_var 3 rfl) (da_cons (de_var 3 rfl) (da_cons (de_var 3 rfl) (da_cons (de_var 3 rfl) da_nil))))))))) da_nil))))
theorem sc__law_refused : FnScope ["state", "tree", "deep", "k", "inner", "bad", "many", "told", "shown", "own"] ["state", "tree"] (defScope s__law_refused) := ⟨rfl, rfl, rfl, by decide +kernel, rfl, by decide +kernel, by decide +kernel⟩
theorem ok__law_refused (T : Txt K mg) (g__law_asked : FnD P w K mg base "_law_asked" 47 2 [] m__law_asked) (g__law_deeds : FnD P w K mg base "_law_deeds" 45 2 [] m__law_deeds) (g__law_draw : FnD P w K mg base "_law_draw" 4 2 [0] m__law_draw) (g__law_pick : FnD P w K mg base "_law_pick" 5 2 [0] m__law_pick) (g__law_same : FnD P w K mg base "_law_same" 4 2 [] m__law_same) (g_accept_deeds : FnD P w K mg base "accept_deeds" 27 3 [] m_accept_deeds) (g_accept_numbers : FnD P w K mg base "accept_numbers" 27 2 [] m_accept_numbers) (g_deeds_for : FnD P w K mg base "deeds_for" 46 1 [] m_deeds_for) (g_needed : FnD P w K mg base "needed" 27 1 [] m_needed) (g_numbered : FnD P w K mg base "numbered" 46 1 [] m_numbered) (g_run_deeds : FnD P w K mg base "run_deeds" 27 2 [] m_run_deeds) (F : Fun K "_law_refused" "_law_refused" s__law_refused f fd) (hm : mg "_law_refused" = some (.ref f)) (bi : Binds K fd ["state", "tree"] []) : FnD P w K mg base "_law_refused" 48 2 [0] m__law_refused := by
  refine fnD_of (N := ["state", "tree", "deep", "k", "inner", "bad", "many", "told", "shown", "own"]) (b := b__law_refused) F hm bi sc__law_refused rfl fun cdv A out s H E c hp tk => ?_
  have hN := sc__law_refused.nd
  unfold b__law_refused
  refine dss_cons (ds_set 2 hN de_int) ?_
  refine dss_cons (ds_for hp c.calm (di_rng1 de_int T.n_range) (dg_name 3 hN) (dss_one (ds_set 2 hN (de_if (dt_cmp (op_eqE c.toCz.u64) o2_eq (de_ofN (dn_call g__law_draw c (by decide) tk (da_cons (de_var 0 rfl) (da_cons de_int da_nil)))) de_int rfl) (de_tup (da_cons (de_var 2 rfl) (da_cons de_int da_nil))) (de_tup (da_cons de_int (da_cons (de_var 2 rfl) da_nil))))))) ?_
  refine dss_cons (ds_set 4 hN (de_if (dt_tru (de_isT (de_ix (de_var 2 rfl) de_int) (by decide) T.n_isinstance T.n_tuple bt_tuple bt_isinstance)) (de_ix (de_var 2 rfl) de_int) (de_ix (de_var 2 rfl) de_int))) ?_
  refine dss_cons (ds_swp [6, 5] ["many", "bad"] c.calm hN (de_tup (da_cons (de_ofN (dn_call g__law_pick c (by decide) tk (da_cons (de_var 0 rfl) (da_cons (de_lst (da_cons de_non (da_cons de_bl (da_cons (de_tup (da_cons de_int da_nil)) (da_cons (de_tup (da_cons de_int (da_cons de_int (da_cons de_int da_nil)))) (da_cons (de_tup (da_cons de_int (da_cons de_non da_nil))) (da_cons de_str (da_cons (de_tup (da_cons de_int (da_cons (de_tup (da_cons de_int (da_cons de_bl da_nil))) da_nil))) (da_cons (de_var 2 rfl) (da_cons (de_tup da_nil) da_nil)))))))))) da_nil)))) (da_cons (de_ofN (dn_call g__law_pick c (by decide) tk (da_cons (de_var 0 rfl) (da_cons (de_lst (da_cons (de_neg de_int) (da_cons de_int (da_cons de_bl (da_cons de_non da_nil))))) da_nil)))) da_nil))) ⟨rfl, rfl, by decide, ⟨rfl, rfl, by decide, True.intro⟩⟩) ?_
  refine dss_cons (ds_set 7 hN (de_lst (da_cons (de_ofN (dn_call g__law_asked c (by decide) tk (da_cons (de_fn g_needed) (da_cons (de_lst (da_cons (de_var 5 rfl) da_nil)) da_nil)))) (da_cons (de_ofN (dn_call g__law_asked c (by decide) tk (da_cons (de_fn g_deeds_for) (da_cons (de_lst (da_cons (de_var 5 rfl) da_nil)) da_nil)))) (da_cons (de_ofN (dn_call g__law_asked c (by decide) tk (da_cons (de_fn g_numbered) (da_cons (de_lst (da_cons (de_var 5 rfl) da_nil)) da_nil)))) (da_cons (de_ofN (dn_call g__law_asked c (by decide) tk (da_cons (de_fn g_accept_deeds) (da_cons (de_lst (da_cons (de_var 5 rfl) (da_cons (de_var 6 rfl) (da_cons de_non da_nil)))) da_nil)))) (da_cons (de_ofN (dn_call g__law_asked c (by decide) tk (da_cons (de_fn g_accept_numbers) (da_cons (de_lst (da_cons (de_var 5 rfl) (da_cons de_non da_nil))) da_nil)))) da_nil))))))) ?_
  refine dss_cons (ds_if (DW.dt (dw_or (dt_cmp (op_neE c.toCz.u64) o2_ne (de_var 7 rfl) (de_mul (de_lst (da_cons de_str da_nil)) de_int) rfl) (dw_or (dt_cmp (op_neE c.toCz.u64) o2_ne (de_ofN (dn_call g__law_asked c (by decide) tk (da_cons (de_fn g_accept_deeds) (da_cons (de_lst (da_cons (de_var 1 rfl) (da_cons (de_var 6 rfl) (da_cons de_non da_nil)))) da_nil)))) de_str rfl) (dw_or1 (dt_cmp (op_neE c.toCz.u64) o2_ne (de_ofN (dn_call g__law_asked c (by decide) tk (da_cons (de_fn g_run_deeds) (da_cons (de_lst (da_cons (de_var 6 rfl) (da_cons de_non da_nil))) da_nil)))) de_str rfl))))) (dss_one (ds_ret de_bl)) dss_nil) ?_
  refine dss_cons (ds_set 8 hN (de_ofN (dn_call g__law_deeds c (by decide) tk (da_cons (de_var 4 rfl) (da_cons de_int da_nil))))) ?_
  refine dss_cons (ds_if (dt_not (dt_tru (de_ofN (dn_call g__law_same c (by decide) tk (da_cons (de_ofN (dn_call g__law_asked c (by decide) tk (da_cons (de_fn g_accept_deeds) (da_cons (de_lst (da_cons (de_var 4 rfl) (da_cons de_int (da_cons (de_var 8 rfl) da_nil)))) da_nil)))) (da_cons (de_lst (da_cons de_non da_nil)) da_nil)))))) (dss_one (ds_ret de_bl)) dss_nil) ?_
  refine dss_cons (ds_set 9 hN (de_tup (da_cons (de_tup (da_cons de_str (da_cons de_int (da_cons de_int da_nil)))) da_nil))) ?_
  exact dss_one (ds_ret (de_and (de_cmp (op_eqE c.toCz.u64) o2_eq (de_ofN (dn_call g__law_asked c (by decide) tk (da_cons (de_fn g_run_deeds) (da_cons (de_lst (da_cons de_int (da_cons (de_add (de_add (de_var 8 rfl) (de_var 9 rfl)) (de_tup (da_cons (de_tup (da_cons de_str (da_cons de_int (da_cons de_int (da_cons de_int da_nil))))) da_nil))) da_nil))) da_nil)))) de_str rfl) (de_one (de_isT (de_ofN (dn_call g__law_asked c (by decide) tk (da_cons (de_fn g_run_deeds) (da_cons (de_lst (da_cons de_int (da_cons (de_add (de_var 8 rfl) (de_var 9 rfl)) da_nil))) da_nil)))) (by decide) T.n_isinstance T.n_list bt_list bt_isinstance))))
theorem sc_law : FnScope ["script", "state", "turn", "tree", "need", "deeds", "k", "many", "some", "found", "paper"] ["script"] (defScope s_law) := ⟨rfl, rfl, rfl, by decide +kernel, rfl, by decide +kernel, by decide +kernel⟩
theorem ok_law {n : Nat} {fS : Addr} {fdS : FuncData} (T : Txt K mg) (g__law_are_numbers : FnD P w K mg base "_law_are_numbers" 46 2 [] m__law_are_numbers) (g__law_asked : FnD P w K mg base "_law_asked" 47 2 [] m__law_asked) (g__law_deeds : FnD P w K mg base "_law_deeds" 45 2 [] m__law_deeds) (g__law_deeds_due : FnD P w K mg base "_law_deeds_due" 26 3 [] m__law_deeds_due) (g__law_done : FnD P w K mg base "_law_done" 25 2 [] m__law_done) (g__law_need : FnD P w K mg base "_law_need" 24 1 [] m__law_need) (g__law_numbers : FnD P w K mg base "_law_numbers" 45 1 [] m__law_numbers) (g__law_pick : FnD P w K mg base "_law_pick" 5 2 [0] m__law_pick) (g__law_refused : FnD P w K mg base "_law_refused" 48 2 [0] m__law_refused) (g__law_same : FnD P w K mg base "_law_same" 4 2 [] m__law_same) (g__law_spoilt : FnD P w K mg base "_law_spoilt" 27 2 [0] m__law_spoilt) (g__law_tree : FnD P w K mg base "_law_tree" 26 3 [0] m__law_tree) (g_accept_deeds : FnD P w K mg base "accept_deeds" 27 3 [] m_accept_deeds) (g_accept_numbers : FnD P w K mg base "accept_numbers" 27 2 [] m_accept_numbers) (g_run_deeds : FnD P w K mg base "run_deeds" 27 2 [] m_run_deeds) (gS : FnG P w K mg base 4 fS fdS ["script"] (spStart K)) (bS : Binds K fdS ["script"] []) (kS : PySem.W.keepIn K (.ref fS) = true) (hS : mg "_law_start" = some (.ref fS)) (pl : Plain n 9 b_law) (F : Fun K "law" "law" s_law f fd) : FnG P w K mg base 49 f fd ["script"] (spLaw K n) := by
  refine law_ok (N := ["script", "state", "turn", "tree", "need", "deeds", "k", "many", "some", "found", "paper"]) (b := b_law) F sc_law rfl rfl pl fun cdv A out s H E c hp tk => ⟨ps_start gS bS kS hS c (by decide) tk sc_law.nd rfl rfl (by first | exact Or.inl rfl | exact Or.inr rfl), ?_⟩
  have hN := sc_law.nd
  unfold b_law
  refine dss_cons (ds_for hp c.calm (di_rng1 de_int T.n_range) (dg_name 2 hN) (dss_cons (ds_set 3 hN (de_ofN (dn_call g__law_tree c (by decide) tk (da_cons (de_var 1 rfl) (da_cons (de_ofN (dn_call g__law_pick c (by decide) tk (da_cons (de_var 1 rfl) (da_cons (de_lst (da_cons de_int (da_cons de_int (da_cons de_int (da_cons de_int da_nil))))) da_nil)))) (da_cons de_bl da_nil)))))) (dss_cons (ds_swp [5, 4] ["deeds", "need"] c.calm hN (de_tup (da_cons (de_ofN (dn_call g__law_need c (by decide) tk (da_cons (de_var 3 rfl) da_nil))) (da_cons (de_ofN (dn_call g__law_deeds c (by decide) tk (da_cons (de_var 3 rfl) (da_cons de_int da_nil)))) da_nil))) ⟨rfl, rfl, by decide, ⟨rfl, rfl, by decide, True.intro⟩⟩) (dss_cons (ds_for hp c.calm (di_rng1 de_int T.n_range) (dg_name 6 hN) (dss_cons (ds_set 7 hN (de_ofN (dn_call g__law_pick c (by decide) tk (da_cons (de_var 1 rfl) (da_cons (de_lst (da_cons (de_var 4 rfl) (da_cons (de_var 4 rfl) (da_cons (de_var 4 rfl) (da_cons (de_add (de_var 4 rfl) de_int) (da_cons (de_sub (de_var 4 rfl) de_int) (da_cons de_int (da_cons de_int da_nil)))))))) da_nil))))) (dss_cons (ds_set 8 hN (de_if (dt_cmp (op_eqE c.toCz.u64) o2_eq (de_var 6 rfl) de_int rfl) (de_var 5 rfl) (de_ofN (dn_call g__law_spoilt c (by decide) tk (da_cons (de_var 1 rfl) (da_cons (de_var 5 rfl) da_nil)))))) (dss_cons (ds_if (dt_not (dt_tru (de_ofN (dn_call g__law_same c (by decide) tk (da_cons (de_ofN (dn_call g__law_asked c (by decide) tk (da_cons (de_fn g_accept_deeds) (da_cons (de_lst (da_cons (de_var 3 rfl) (da_cons (de_var 7 rfl) (da_cons (de_var 8 rfl) da_nil)))) da_nil)))) (da_cons (de_ofN (dn_call g__law_deeds_due c (by decide) tk (da_cons (de_var 3 rfl) (da_cons (de_var 7 rfl) (da_cons (de_var 8 rfl) da_nil))))) da_nil)))))) (dss_one (ds_ret de_bl)) dss_nil) (dss_cons (ds_set 9 hN (de_ofN (dn_call g__law_done c (by decide) tk (da_cons (de_var 7 rfl) (da_cons (de_var 8 rfl) da_nil))))) (dss_cons (ds_if (dt_not (dt_tru (de_ofN (dn_call g__law_same c (by decide) tk (da_cons (de_ofN (dn_call g__law_asked c (by decide) tk (da_cons (de_fn g_run_deeds) (da_cons (de_lst (da_cons (de_var 7 rfl) (da_cons (de_var 8 rfl) da_nil))) da_nil)))) (da_cons (de_if (dt_cmp op_isN o2_isN (de_var 9 rfl) de_non rfl) de_str (de_lst (da_cons (de_var 9 rfl) da_nil))) da_nil)))))) (dss_one (ds_ret de_bl)) dss_nil) (dss_cons (ds_set 10 hN (de_if (dt_cmp (op_eqE c.toCz.u64) o2_eq (de_var 6 rfl) de_int rfl) (de_ofN (dn_call g__law_numbers c (by decide) tk (da_cons (de_var 3 rfl) da_nil))) (de_ofN (dn_call g__law_spoilt c (by decide) tk (da_cons (de_var 1 rfl) (da_cons (de_ofN (dn_call g__law_numbers c (by decide) tk (da_cons (de_var 3 rfl) da_nil))) da_nil)))))) (dss_one (ds_if (dt_not (dt_tru (de_ofN (dn_call g__law_same c (by decide) tk (da_cons (de_ofN (dn_call g__law_asked c (by decide) tk (da_cons (de_fn g_accept_numbers) (da_cons (de_lst (da_cons (de_var 3 rfl) (da_cons (de_var 10 rfl) da_nil))) da_nil)))) (da_cons (de_if (dt_tru (de_ofN (dn_call g__law_are_numbers c (by decide) tk (da_cons (de_var 3 rfl) (da_cons (de_var 10 rfl) da_nil))))) (de_lst (da_cons de_non da_nil)) de_str) da_nil)))))) (dss_one (ds_ret de_bl)) dss_nil))))))))) (dss_one (ds_if (dt_not (dt_tru (de_ofN (dn_call g__law_refused c (by decide) tk (da_cons (de_var 1 rfl) (da_cons (de_var 3 rfl) da_nil)))))) (dss_one (ds_ret de_bl)) dss_nil)))))) ?_
  exact dss_one (ds_ret de_bl)
end
section
variable {P : Program} {w : World} {K : PySem.W.Frag} {mg : Str → Option Value} {base : Heap} {C M : Addr}
theorem is_HeapError : IniScope "reason" (defScope (inClass (top 2) 0)) := ⟨rfl, rfl, rfl, rfl, rfl, rfl, rfl, by decide +kernel, iniFrees (by decide +kernel), by decide⟩
theorem ex_HeapError {h : Heap} (kin : K.In h) (G : h.Ns mainGlobals mg) (T : Txt K mg) (tp : (P.main.scope.names.lookup ("super" : Str)).isSome = false) (oq : PySem.W.nsIn K PySem.cStatics "thirdparty.any" = some none) (E : ErrIn P K "HeapError" "HeapError.__init__" "reason" (top 2) C M) : ErrX P w K mg base "HeapError" := by
  obtain ⟨f, cc, cda, t⟩ := E.txt (mg := mg) T.n_super T.n_str tp oq
  exact err_one (arg := "reason") (attr := "reason") t (PySem.W.mg_of kin G E.aC) rfl is_HeapError rfl (by decide +kernel) rfl rfl rfl rfl fun _ _ _ _ _ us hl => match us, hl with | [_, _], _ => rfl
theorem is_ArgumentError : IniScope "reason" (defScope (inClass (top 3) 0)) := ⟨rfl, rfl, rfl, rfl, rfl, rfl, rfl, by decide +kernel, iniFrees (by decide +kernel), by decide⟩
theorem ex_ArgumentError {h : Heap} (kin : K.In h) (G : h.Ns mainGlobals mg) (T : Txt K mg) (tp : (P.main.scope.names.lookup ("super" : Str)).isSome = false) (oq : PySem.W.nsIn K PySem.cStatics "thirdparty.any" = some none) (E : ErrIn P K "ArgumentError" "ArgumentError.__init__" "reason" (top 3) C M) : ErrX P w K mg base "ArgumentError" := by
  obtain ⟨f, cc, cda, t⟩ := E.txt (mg := mg) T.n_super T.n_str tp oq
  exact err_one (arg := "reason") (attr := "reason") t (PySem.W.mg_of kin G E.aC) rfl is_ArgumentError rfl (by decide +kernel) rfl rfl rfl rfl fun _ _ _ _ _ us hl => match us, hl with | [_, _], _ => rfl
theorem is_PaperError : IniScope "reason" (defScope (inClass (top 4) 0)) := ⟨rfl, rfl, rfl, rfl, rfl, rfl, rfl, by decide +kernel, iniFrees (by decide +kernel), by decide⟩
theorem ex_PaperError {h : Heap} (kin : K.In h) (G : h.Ns mainGlobals mg) (T : Txt K mg) (tp : (P.main.scope.names.lookup ("super" : Str)).isSome = false) (oq : PySem.W.nsIn K PySem.cStatics "thirdparty.any" = some none) (E : ErrIn P K "PaperError" "PaperError.__init__" "reason" (top 4) C M) : ErrX P w K mg base "PaperError" := by
  obtain ⟨f, cc, cda, t⟩ := E.txt (mg := mg) T.n_super T.n_str tp oq
  exact err_one (arg := "reason") (attr := "reason") t (PySem.W.mg_of kin G E.aC) rfl is_PaperError rfl (by decide +kernel) rfl rfl rfl rfl fun _ _ _ _ _ us hl => match us, hl with | [_, _], _ => rfl
theorem is_TooMany : IniScope "reason" (defScope (inClass (top 5) 0)) := ⟨rfl, rfl, rfl, rfl, rfl, rfl, rfl, by decide +kernel, iniFrees (by decide +kernel), by decide⟩
theorem ex_TooMany {h : Heap} (kin : K.In h) (G : h.Ns mainGlobals mg) (T : Txt K mg) (tp : (P.main.scope.names.lookup ("super" : Str)).isSome = false) (oq : PySem.W.nsIn K PySem.cStatics "thirdparty.any" = some none) (E : ErrIn P K "TooMany" "TooMany.__init__" "reason" (top 5) C M) : ErrX P w K mg base "TooMany" := by
  obtain ⟨f, cc, cda, t⟩ := E.txt (mg := mg) T.n_super T.n_str tp oq
  exact err_one (arg := "reason") (attr := "reason") t (PySem.W.mg_of kin G E.aC) rfl is_TooMany rfl (by decide +kernel) rfl rfl rfl rfl fun _ _ _ _ _ us hl => match us, hl with | [_, _], _ => rfl
end
theorem all_mk {P : Program} {w : World} {K : PySem.W.Frag} {h : Heap} {mg : Str → Option Value} {fa M : Addr} {n : Nat} (kin : K.In h) (G : h.Ns mainGlobals mg) (hfa : mg "law" = some (.ref fa)) (pl : Plain n 9 b_law)
    {C_HeapError C_ArgumentError C_PaperError C_TooMany : Addr}
    (h_is_integer : FunIn K "is_integer" s_is_integer)
    (h_is_tree : FunIn K "is_tree" s_is_tree)
    (h_check_tree : FunIn K "check_tree" s_check_tree)
    (h_needed_of : FunIn K "needed_of" s_needed_of)
    (h_needed : FunIn K "needed" s_needed)
    (h_worked : FunIn K "worked" s_worked)
    (h_deeds_for : FunIn K "deeds_for" s_deeds_for)
    (h_run_of : FunIn K "run_of" s_run_of)
    (h_run_deeds : FunIn K "run_deeds" s_run_deeds)
    (h_accept_deeds : FunIn K "accept_deeds" s_accept_deeds)
    (h_numbers_of : FunIn K "numbers_of" s_numbers_of)
    (h_numbered : FunIn K "numbered" s_numbered)
    (h_are_numbers : FunIn K "are_numbers" s_are_numbers)
    (h_accept_numbers : FunIn K "accept_numbers" s_accept_numbers)
    (h__law_start : FunIn K "_law_start" s__law_start)
    (h__law_draw : FunIn K "_law_draw" s__law_draw)
    (h__law_pick : FunIn K "_law_pick" s__law_pick)
    (h__law_same : FunIn K "_law_same" s__law_same)
    (h__law_word : FunIn K "_law_word" s__law_word)
    (h__law_asked : FunIn K "_law_asked" s__law_asked)
    (h__law_tree : FunIn K "_law_tree" s__law_tree)
    (h__law_need : FunIn K "_law_need" s__law_need)
    (h__law_deeds : FunIn K "_law_deeds" s__law_deeds)
    (h__law_numbers : FunIn K "_law_numbers" s__law_numbers)
    (h__law_depth : FunIn K "_law_depth" s__law_depth)
    (h__law_whole : FunIn K "_law_whole" s__law_whole)
    (h__law_done : FunIn K "_law_done" s__law_done)
    (h__law_are_numbers : FunIn K "_law_are_numbers" s__law_are_numbers)
    (h__law_deeds_due : FunIn K "_law_deeds_due" s__law_deeds_due)
    (h__law_odd : FunIn K "_law_odd" s__law_odd)
    (h__law_spoilt : FunIn K "_law_spoilt" s__law_spoilt)
    (h__law_refused : FunIn K "_law_refused" s__law_refused)
    (h_law : FunIn K "law" s_law)
    (z_ValueError : PySem.W.nsIn K mainGlobals "ValueError" = some none)
    (z_abs : PySem.W.nsIn K mainGlobals "abs" = some none)
    (z_all : PySem.W.nsIn K mainGlobals "all" = some none)
    (z_bool : PySem.W.nsIn K mainGlobals "bool" = some none)
    (z_int : PySem.W.nsIn K mainGlobals "int" = some none)
    (z_isinstance : PySem.W.nsIn K mainGlobals "isinstance" = some none)
    (z_len : PySem.W.nsIn K mainGlobals "len" = some none)
    (z_list : PySem.W.nsIn K mainGlobals "list" = some none)
    (z_max : PySem.W.nsIn K mainGlobals "max" = some none)
    (z_range : PySem.W.nsIn K mainGlobals "range" = some none)
    (z_repr : PySem.W.nsIn K mainGlobals "repr" = some none)
    (z_sorted : PySem.W.nsIn K mainGlobals "sorted" = some none)
    (z_str : PySem.W.nsIn K mainGlobals "str" = some none)
    (z_super : PySem.W.nsIn K mainGlobals "super" = some none)
    (z_tuple : PySem.W.nsIn K mainGlobals "tuple" = some none)
    (z_MAX_SPANS : ∃ t, PySem.W.nsIn K mainGlobals "MAX_SPANS" = some (some (.int 60 t)))
    (z_MAX_DEPTH : ∃ t, PySem.W.nsIn K mainGlobals "MAX_DEPTH" = some (some (.int 12 t)))
    (oq : PySem.W.nsIn K PySem.cStatics "thirdparty.any" = some none)
    (tp : (P.main.scope.names.lookup ("super" : Str)).isSome = false)
    (h_HeapError : ErrIn P K "HeapError" "HeapError.__init__" "reason" (top 2) C_HeapError M)
    (h_ArgumentError : ErrIn P K "ArgumentError" "ArgumentError.__init__" "reason" (top 3) C_ArgumentError M)
    (h_PaperError : ErrIn P K "PaperError" "PaperError.__init__" "reason" (top 4) C_PaperError M)
    (h_TooMany : ErrIn P K "TooMany" "TooMany.__init__" "reason" (top 5) C_TooMany M)
    (p_HeapError_HeapError : PySem.W.kitOne K (.ref C_HeapError) (.ref C_HeapError) = some true)
    (p_HeapError_ArgumentError : PySem.W.kitOne K (.ref C_HeapError) (.ref C_ArgumentError) = some false)
    (p_HeapError_PaperError : PySem.W.kitOne K (.ref C_HeapError) (.ref C_PaperError) = some false)
    (p_HeapError_TooMany : PySem.W.kitOne K (.ref C_HeapError) (.ref C_TooMany) = some false)
    (p_ArgumentError_HeapError : PySem.W.kitOne K (.ref C_ArgumentError) (.ref C_HeapError) = some false)
    (p_ArgumentError_ArgumentError : PySem.W.kitOne K (.ref C_ArgumentError) (.ref C_ArgumentError) = some true)
    (p_ArgumentError_PaperError : PySem.W.kitOne K (.ref C_ArgumentError) (.ref C_PaperError) = some false)
    (p_ArgumentError_TooMany : PySem.W.kitOne K (.ref C_ArgumentError) (.ref C_TooMany) = some false)
    (p_PaperError_HeapError : PySem.W.kitOne K (.ref C_PaperError) (.ref C_HeapError) = some false)
    (p_PaperError_ArgumentError : PySem.W.kitOne K (.ref C_PaperError) (.ref C_ArgumentError) = some false)
    (p_PaperError_PaperError : PySem.W.kitOne K (.ref C_PaperError) (.ref C_PaperError) = some true)
    (p_PaperError_TooMany : PySem.W.kitOne K (.ref C_PaperError) (.ref C_TooMany) = some false)
    (p_TooMany_HeapError : PySem.W.kitOne K (.ref C_TooMany) (.ref C_HeapError) = some false)
    (p_TooMany_ArgumentError : PySem.W.kitOne K (.ref C_TooMany) (.ref C_ArgumentError) = some false)
    (p_TooMany_PaperError : PySem.W.kitOne K (.ref C_TooMany) (.ref C_PaperError) = some false)
    (p_TooMany_TooMany : PySem.W.kitOne K (.ref C_TooMany) (.ref C_TooMany) = some true) :
    ∃ fd : FuncData, (∀ (s : Shared) (u : Value), BindsTo s fd ⟨[u], []⟩ [("script", u)]) ∧ ∀ base : Heap, K.In base → base.Ns mainGlobals mg → FnG P w K mg base 49 fa fd ["script"] (spLaw K n) := by
  have T : Txt K mg := ⟨PySem.W.mg_none_of kin G z_ValueError, PySem.W.mg_none_of kin G z_abs, PySem.W.mg_none_of kin G z_all, PySem.W.mg_none_of kin G z_bool, PySem.W.mg_none_of kin G z_int, PySem.W.mg_none_of kin G z_isinstance, PySem.W.mg_none_of kin G z_len, PySem.W.mg_none_of kin G z_list, PySem.W.mg_none_of kin G z_max, PySem.W.mg_none_of kin G z_range, PySem.W.mg_none_of kin G z_repr, PySem.W.mg_none_of kin G z_sorted, PySem.W.mg_none_of kin G z_str, PySem.W.mg_none_of kin G z_super, PySem.W.mg_none_of kin G z_tuple, (let ⟨t, e⟩ := z_MAX_SPANS; ⟨t, PySem.W.mg_of kin G e⟩), (let ⟨t, e⟩ := z_MAX_DEPTH; ⟨t, PySem.W.mg_of kin G e⟩), ⟨M, PySem.W.mg_of kin G h_HeapError.aM⟩⟩
  obtain ⟨f_is_integer, fd_is_integer, m_g_is_integer, F_is_integer⟩ := h_is_integer.mg kin G
  have b_is_integer := F_is_integer.binds (ps := ["value"]) fun _ _ _ _ _ _ us hl => match us, hl with | [_], _ => rfl
  obtain ⟨f_is_tree, fd_is_tree, m_g_is_tree, F_is_tree⟩ := h_is_tree.mg kin G
  have b_is_tree := F_is_tree.binds (ps := ["value", "depth"]) fun _ _ _ _ _ _ us hl => match us, hl with | [_, _], _ => rfl
  obtain ⟨f_check_tree, fd_check_tree, m_g_check_tree, F_check_tree⟩ := h_check_tree.mg kin G
  have b_check_tree := F_check_tree.binds (ps := ["tree"]) fun _ _ _ _ _ _ us hl => match us, hl with | [_], _ => rfl
  obtain ⟨f_needed_of, fd_needed_of, m_g_needed_of, F_needed_of⟩ := h_needed_of.mg kin G
  have b_needed_of := F_needed_of.binds (ps := ["tree"]) fun _ _ _ _ _ _ us hl => match us, hl with | [_], _ => rfl
  obtain ⟨f_needed, fd_needed, m_g_needed, F_needed⟩ := h_needed.mg kin G
  have b_needed := F_needed.binds (ps := ["tree"]) fun _ _ _ _ _ _ us hl => match us, hl with | [_], _ => rfl
  obtain ⟨f_worked, fd_worked, m_g_worked, F_worked⟩ := h_worked.mg kin G
  have b_worked := F_worked.binds (ps := ["tree", "free"]) fun _ _ _ _ _ _ us hl => match us, hl with | [_, _], _ => rfl
  obtain ⟨f_deeds_for, fd_deeds_for, m_g_deeds_for, F_deeds_for⟩ := h_deeds_for.mg kin G
  have b_deeds_for := F_deeds_for.binds (ps := ["tree"]) fun _ _ _ _ _ _ us hl => match us, hl with | [_], _ => rfl
  obtain ⟨f_run_of, fd_run_of, m_g_run_of, F_run_of⟩ := h_run_of.mg kin G
  have b_run_of := F_run_of.binds (ps := ["many", "deeds"]) fun _ _ _ _ _ _ us hl => match us, hl with | [_, _], _ => rfl
  obtain ⟨f_run_deeds, fd_run_deeds, m_g_run_deeds, F_run_deeds⟩ := h_run_deeds.mg kin G
  have b_run_deeds := F_run_deeds.binds (ps := ["many", "deeds"]) fun _ _ _ _ _ _ us hl => match us, hl with | [_, _], _ => rfl
  obtain ⟨f_accept_deeds, fd_accept_deeds, m_g_accept_deeds, F_accept_deeds⟩ := h_accept_deeds.mg kin G
  have b_accept_deeds := F_accept_deeds.binds (ps := ["tree", "many", "deeds"]) fun _ _ _ _ _ _ us hl => match us, hl with | [_, _, _], _ => rfl
  obtain ⟨f_numbers_of, fd_numbers_of, m_g_numbers_of, F_numbers_of⟩ := h_numbers_of.mg kin G
  have b_numbers_of := F_numbers_of.binds (ps := ["tree"]) fun _ _ _ _ _ _ us hl => match us, hl with | [_], _ => rfl
  obtain ⟨f_numbered, fd_numbered, m_g_numbered, F_numbered⟩ := h_numbered.mg kin G
  have b_numbered := F_numbered.binds (ps := ["tree"]) fun _ _ _ _ _ _ us hl => match us, hl with | [_], _ => rfl
  obtain ⟨f_are_numbers, fd_are_numbers, m_g_are_numbers, F_are_numbers⟩ := h_are_numbers.mg kin G
  have b_are_numbers := F_are_numbers.binds (ps := ["tree", "numbers"]) fun _ _ _ _ _ _ us hl => match us, hl with | [_, _], _ => rfl
  obtain ⟨f_accept_numbers, fd_accept_numbers, m_g_accept_numbers, F_accept_numbers⟩ := h_accept_numbers.mg kin G
  have b_accept_numbers := F_accept_numbers.binds (ps := ["tree", "numbers"]) fun _ _ _ _ _ _ us hl => match us, hl with | [_, _], _ => rfl
  obtain ⟨f__law_start, fd__law_start, m_g__law_start, F__law_start⟩ := h__law_start.mg kin G
  have b__law_start := F__law_start.binds (ps := ["script"]) fun _ _ _ _ _ _ us hl => match us, hl with | [_], _ => rfl
  obtain ⟨f__law_draw, fd__law_draw, m_g__law_draw, F__law_draw⟩ := h__law_draw.mg kin G
  have b__law_draw := F__law_draw.binds (ps := ["state", "many"]) fun _ _ _ _ _ _ us hl => match us, hl with | [_, _], _ => rfl
  obtain ⟨f__law_pick, fd__law_pick, m_g__law_pick, F__law_pick⟩ := h__law_pick.mg kin G
  have b__law_pick := F__law_pick.binds (ps := ["state", "some"]) fun _ _ _ _ _ _ us hl => match us, hl with | [_, _], _ => rfl
  obtain ⟨f__law_same, fd__law_same, m_g__law_same, F__law_same⟩ := h__law_same.mg kin G
  have b__law_same := F__law_same.binds (ps := ["actual", "due"]) fun _ _ _ _ _ _ us hl => match us, hl with | [_, _], _ => rfl
  obtain ⟨f__law_word, fd__law_word, m_g__law_word, F__law_word⟩ := h__law_word.mg kin G
  have b__law_word := F__law_word.binds (ps := ["error"]) fun _ _ _ _ _ _ us hl => match us, hl with | [_], _ => rfl
  obtain ⟨f__law_asked, fd__law_asked, m_g__law_asked, F__law_asked⟩ := h__law_asked.mg kin G
  have b__law_asked := F__law_asked.binds (ps := ["way", "some"]) fun _ _ _ _ _ _ us hl => match us, hl with | [_, _], _ => rfl
  obtain ⟨f__law_tree, fd__law_tree, m_g__law_tree, F__law_tree⟩ := h__law_tree.mg kin G
  have b__law_tree := F__law_tree.binds (ps := ["state", "depth", "full"]) fun _ _ _ _ _ _ us hl => match us, hl with | [_, _, _], _ => rfl
  obtain ⟨f__law_need, fd__law_need, m_g__law_need, F__law_need⟩ := h__law_need.mg kin G
  have b__law_need := F__law_need.binds (ps := ["tree"]) fun _ _ _ _ _ _ us hl => match us, hl with | [_], _ => rfl
  obtain ⟨f__law_deeds, fd__law_deeds, m_g__law_deeds, F__law_deeds⟩ := h__law_deeds.mg kin G
  have b__law_deeds := F__law_deeds.binds (ps := ["tree", "first"]) fun _ _ _ _ _ _ us hl => match us, hl with | [_, _], _ => rfl
  obtain ⟨f__law_numbers, fd__law_numbers, m_g__law_numbers, F__law_numbers⟩ := h__law_numbers.mg kin G
  have b__law_numbers := F__law_numbers.binds (ps := ["tree"]) fun _ _ _ _ _ _ us hl => match us, hl with | [_], _ => rfl
  obtain ⟨f__law_depth, fd__law_depth, m_g__law_depth, F__law_depth⟩ := h__law_depth.mg kin G
  have b__law_depth := F__law_depth.binds (ps := ["tree"]) fun _ _ _ _ _ _ us hl => match us, hl with | [_], _ => rfl
  obtain ⟨f__law_whole, fd__law_whole, m_g__law_whole, F__law_whole⟩ := h__law_whole.mg kin G
  have b__law_whole := F__law_whole.binds (ps := ["value"]) fun _ _ _ _ _ _ us hl => match us, hl with | [_], _ => rfl
  obtain ⟨f__law_done, fd__law_done, m_g__law_done, F__law_done⟩ := h__law_done.mg kin G
  have b__law_done := F__law_done.binds (ps := ["many", "deeds"]) fun _ _ _ _ _ _ us hl => match us, hl with | [_, _], _ => rfl
  obtain ⟨f__law_are_numbers, fd__law_are_numbers, m_g__law_are_numbers, F__law_are_numbers⟩ := h__law_are_numbers.mg kin G
  have b__law_are_numbers := F__law_are_numbers.binds (ps := ["tree", "value"]) fun _ _ _ _ _ _ us hl => match us, hl with | [_, _], _ => rfl
  obtain ⟨f__law_deeds_due, fd__law_deeds_due, m_g__law_deeds_due, F__law_deeds_due⟩ := h__law_deeds_due.mg kin G
  have b__law_deeds_due := F__law_deeds_due.binds (ps := ["tree", "many", "deeds"]) fun _ _ _ _ _ _ us hl => match us, hl with | [_, _, _], _ => rfl
  obtain ⟨f__law_odd, fd__law_odd, m_g__law_odd, F__law_odd⟩ := h__law_odd.mg kin G
  have b__law_odd := F__law_odd.binds (ps := ["state"]) fun _ _ _ _ _ _ us hl => match us, hl with | [_], _ => rfl
  obtain ⟨f__law_spoilt, fd__law_spoilt, m_g__law_spoilt, F__law_spoilt⟩ := h__law_spoilt.mg kin G
  have b__law_spoilt := F__law_spoilt.binds (ps := ["state", "value"]) fun _ _ _ _ _ _ us hl => match us, hl with | [_, _], _ => rfl
  obtain ⟨f__law_refused, fd__law_refused, m_g__law_refused, F__law_refused⟩ := h__law_refused.mg kin G
  have b__law_refused := F__law_refused.binds (ps := ["state", "tree"]) fun _ _ _ _ _ _ us hl => match us, hl with | [_, _], _ => rfl
  obtain ⟨f_law, fd_law, m_g_law, F_law⟩ := h_law.mg kin G
  have b_law := F_law.binds (ps := ["script"]) fun _ _ _ _ _ _ us hl => match us, hl with | [_], _ => rfl
  have ef := hfa.symm.trans m_g_law
  cases ef
  obtain ⟨oc, od, kV, dc, pm, an, cdv, ct, sl, efd, _, _⟩ := F_law.ex
  refine ⟨fd_law, fun s u => .of_eq (by rw [efd]; rfl), fun base _ _ => ?_⟩
  have c_HeapError := h_HeapError.errC kin G rfl
  have c_ArgumentError := h_ArgumentError.errC kin G rfl
  have c_PaperError := h_PaperError.errC kin G rfl
  have c_TooMany := h_TooMany.errC kin G rfl
  have e_HeapError : ErrX P w K mg base "HeapError" := ex_HeapError kin G T tp oq h_HeapError
  have e_ArgumentError : ErrX P w K mg base "ArgumentError" := ex_ArgumentError kin G T tp oq h_ArgumentError
  have e_PaperError : ErrX P w K mg base "PaperError" := ex_PaperError kin G T tp oq h_PaperError
  have e_TooMany : ErrX P w K mg base "TooMany" := ex_TooMany kin G T tp oq h_TooMany
  have et : ErrTab K mg errs := by
    refine ⟨fun c hc => ?_, T.n_ValueError⟩
    simp only [errs, List.mem_cons, List.not_mem_nil, or_false] at hc
    rcases hc with rfl | rfl | rfl | rfl
    · refine ⟨C_HeapError, c_HeapError, fun d hd D hD => ?_, h_HeapError.kV, M, PySem.W.mg_of kin G h_HeapError.aM, h_HeapError.exm⟩
      simp only [errs, List.mem_cons, List.not_mem_nil, or_false] at hd
      rcases hd with rfl | rfl | rfl | rfl
      · obtain rfl : C_HeapError = D := by have := c_HeapError.hm.symm.trans hD; cases this; rfl
        exact p_HeapError_HeapError
      · obtain rfl : C_ArgumentError = D := by have := c_ArgumentError.hm.symm.trans hD; cases this; rfl
        exact p_HeapError_ArgumentError
      · obtain rfl : C_PaperError = D := by have := c_PaperError.hm.symm.trans hD; cases this; rfl
        exact p_HeapError_PaperError
      · obtain rfl : C_TooMany = D := by have := c_TooMany.hm.symm.trans hD; cases this; rfl
        exact p_HeapError_TooMany
    · refine ⟨C_ArgumentError, c_ArgumentError, fun d hd D hD => ?_, h_ArgumentError.kV, M, PySem.W.mg_of kin G h_ArgumentError.aM, h_ArgumentError.exm⟩
      simp only [errs, List.mem_cons, List.not_mem_nil, or_false] at hd
      rcases hd with rfl | rfl | rfl | rfl
      · obtain rfl : C_HeapError = D := by have := c_HeapError.hm.symm.trans hD; cases this; rfl
        exact p_ArgumentError_HeapError
      · obtain rfl : C_ArgumentError = D := by have := c_ArgumentError.hm.symm.trans hD; cases this; rfl
        exact p_ArgumentError_ArgumentError
      · obtain rfl : C_PaperError = D := by have := c_PaperError.hm.symm.trans hD; cases this; rfl
        exact p_ArgumentError_PaperError
      · obtain rfl : C_TooMany = D := by have := c_TooMany.hm.symm.trans hD; cases this; rfl
        exact p_ArgumentError_TooMany
    · refine ⟨C_PaperError, c_PaperError, fun d hd D hD => ?_, h_PaperError.kV, M, PySem.W.mg_of kin G h_PaperError.aM, h_PaperError.exm⟩
      simp only [errs, List.mem_cons, List.not_mem_nil, or_false] at hd
      rcases hd with rfl | rfl | rfl | rfl
      · obtain rfl : C_HeapError = D := by have := c_HeapError.hm.symm.trans hD; cases this; rfl
        exact p_PaperError_HeapError
      · obtain rfl : C_ArgumentError = D := by have := c_ArgumentError.hm.symm.trans hD; cases this; rfl
        exact p_PaperError_ArgumentError
      · obtain rfl : C_PaperError = D := by have := c_PaperError.hm.symm.trans hD; cases this; rfl
        exact p_PaperError_PaperError
      · obtain rfl : C_TooMany = D := by have := c_TooMany.hm.symm.trans hD; cases this; rfl
        exact p_PaperError_TooMany
    · refine ⟨C_TooMany, c_TooMany, fun d hd D hD => ?_, h_TooMany.kV, M, PySem.W.mg_of kin G h_TooMany.aM, h_TooMany.exm⟩
      simp only [errs, List.mem_cons, List.not_mem_nil, or_false] at hd
      rcases hd with rfl | rfl | rfl | rfl
      · obtain rfl : C_HeapError = D := by have := c_HeapError.hm.symm.trans hD; cases this; rfl
        exact p_TooMany_HeapError
      · obtain rfl : C_ArgumentError = D := by have := c_ArgumentError.hm.symm.trans hD; cases this; rfl
        exact p_TooMany_ArgumentError
      · obtain rfl : C_PaperError = D := by have := c_PaperError.hm.symm.trans hD; cases this; rfl
        exact p_TooMany_PaperError
      · obtain rfl : C_TooMany = D := by have := c_TooMany.hm.symm.trans hD; cases this; rfl
        exact p_TooMany_TooMany
  have g_is_integer : FnD P w K mg base "is_integer" 4 1 [] m_is_integer := ok_is_integer T  F_is_integer m_g_is_integer b_is_integer
  have g_is_tree : FnD P w K mg base "is_tree" 25 2 [] m_is_tree := ok_is_tree T g_is_integer F_is_tree m_g_is_tree b_is_tree 20
  have g_check_tree : FnD P w K mg base "check_tree" 26 1 [] m_check_tree := ok_check_tree T g_is_tree e_ArgumentError F_check_tree m_g_check_tree b_check_tree
  have g_needed_of : FnD P w K mg base "needed_of" 24 1 [] m_needed_of := ok_needed_of T  F_needed_of m_g_needed_of b_needed_of 20
  have g_needed : FnD P w K mg base "needed" 27 1 [] m_needed := ok_needed T g_check_tree g_needed_of F_needed m_g_needed b_needed
  have g_worked : FnD P w K mg base "worked" 45 2 [] m_worked := ok_worked T g_needed_of F_worked m_g_worked b_worked 20
  have g_deeds_for : FnD P w K mg base "deeds_for" 46 1 [] m_deeds_for := ok_deeds_for T g_check_tree g_needed_of g_worked F_deeds_for m_g_deeds_for b_deeds_for
  have g_run_of : FnD P w K mg base "run_of" 26 2 [] m_run_of := ok_run_of T g_is_integer g_is_tree F_run_of m_g_run_of b_run_of
  have g_run_deeds : FnD P w K mg base "run_deeds" 27 2 [] m_run_deeds := ok_run_deeds T g_is_integer g_run_of e_ArgumentError F_run_deeds m_g_run_deeds b_run_deeds
  have g_accept_deeds : FnD P w K mg base "accept_deeds" 27 3 [] m_accept_deeds := ok_accept_deeds T g_check_tree g_is_integer g_run_of e_ArgumentError e_PaperError F_accept_deeds m_g_accept_deeds b_accept_deeds
  have g_numbers_of : FnD P w K mg base "numbers_of" 45 1 [] m_numbers_of := ok_numbers_of T g_needed_of F_numbers_of m_g_numbers_of b_numbers_of 20
  have g_numbered : FnD P w K mg base "numbered" 46 1 [] m_numbered := ok_numbered T g_check_tree g_numbers_of F_numbered m_g_numbered b_numbered
  have g_are_numbers : FnD P w K mg base "are_numbers" 25 2 [] m_are_numbers := ok_are_numbers T g_is_integer F_are_numbers m_g_are_numbers b_are_numbers 20
  have g_accept_numbers : FnD P w K mg base "accept_numbers" 27 2 [] m_accept_numbers := ok_accept_numbers T g_are_numbers g_check_tree e_PaperError F_accept_numbers m_g_accept_numbers b_accept_numbers
  have g__law_start : FnG P w K mg base 4 f__law_start fd__law_start ["script"] (spStart K) := ok__law_start T F__law_start
  have g__law_draw : FnD P w K mg base "_law_draw" 4 2 [0] m__law_draw := ok__law_draw T  F__law_draw m_g__law_draw b__law_draw
  have g__law_pick : FnD P w K mg base "_law_pick" 5 2 [0] m__law_pick := ok__law_pick T g__law_draw F__law_pick m_g__law_pick b__law_pick
  have g__law_same : FnD P w K mg base "_law_same" 4 2 [] m__law_same := ok__law_same T  F__law_same m_g__law_same b__law_same
  have g__law_word : FnW P w K mg base "_law_word" 4 1 m__law_word := ok__law_word T et F__law_word m_g__law_word b__law_word
  have tb : ∀ x n S m, tab x = some (n, S, m) → FnD P w K mg base x 46 n S m := by
    intro x n S m e
    unfold tab at e
    split at e
    · rename_i q; cases e; subst q; exact g_needed.up (by decide)
    split at e
    · rename_i q; cases e; subst q; exact g_deeds_for.up (by decide)
    split at e
    · rename_i q; cases e; subst q; exact g_numbered.up (by decide)
    split at e
    · rename_i q; cases e; subst q; exact g_accept_deeds.up (by decide)
    split at e
    · rename_i q; cases e; subst q; exact g_accept_numbers.up (by decide)
    split at e
    · rename_i q; cases e; subst q; exact g_run_deeds.up (by decide)
    · cases e
  have g__law_asked : FnD P w K mg base "_law_asked" 47 2 [] m__law_asked := ok__law_asked T g__law_word tb et F__law_asked m_g__law_asked b__law_asked
  have g__law_tree : FnD P w K mg base "_law_tree" 26 3 [0] m__law_tree := ok__law_tree T g__law_draw g__law_pick F__law_tree m_g__law_tree b__law_tree 20
  have g__law_need : FnD P w K mg base "_law_need" 24 1 [] m__law_need := ok__law_need T  F__law_need m_g__law_need b__law_need 20
  have g__law_deeds : FnD P w K mg base "_law_deeds" 45 2 [] m__law_deeds := ok__law_deeds T g__law_need F__law_deeds m_g__law_deeds b__law_deeds 20
  have g__law_numbers : FnD P w K mg base "_law_numbers" 45 1 [] m__law_numbers := ok__law_numbers T g__law_need F__law_numbers m_g__law_numbers b__law_numbers 20
  have g__law_depth : FnD P w K mg base "_law_depth" 24 1 [] m__law_depth := ok__law_depth T  F__law_depth m_g__law_depth b__law_depth 20
  have g__law_whole : FnD P w K mg base "_law_whole" 4 1 [] m__law_whole := ok__law_whole T  F__law_whole m_g__law_whole b__law_whole
  have g__law_done : FnD P w K mg base "_law_done" 25 2 [] m__law_done := ok__law_done T g__law_depth g__law_whole F__law_done m_g__law_done b__law_done
  have g__law_are_numbers : FnD P w K mg base "_law_are_numbers" 46 2 [] m__law_are_numbers := ok__law_are_numbers T g__law_numbers F__law_are_numbers m_g__law_are_numbers b__law_are_numbers
  have g__law_deeds_due : FnD P w K mg base "_law_deeds_due" 26 3 [] m__law_deeds_due := ok__law_deeds_due T g__law_done F__law_deeds_due m_g__law_deeds_due b__law_deeds_due
  have g__law_odd : FnD P w K mg base "_law_odd" 6 1 [0] m__law_odd := ok__law_odd T g__law_pick F__law_odd m_g__law_odd b__law_odd
  have g__law_spoilt : FnD P w K mg base "_law_spoilt" 27 2 [0] m__law_spoilt := ok__law_spoilt T g__law_draw g__law_odd g__law_pick g__law_whole F__law_spoilt m_g__law_spoilt b__law_spoilt 20
  have g__law_refused : FnD P w K mg base "_law_refused" 48 2 [0] m__law_refused := ok__law_refused T g__law_asked g__law_deeds g__law_draw g__law_pick g__law_same g_accept_deeds g_accept_numbers g_deeds_for g_needed g_numbered g_run_deeds F__law_refused m_g__law_refused b__law_refused
  exact ok_law T g__law_are_numbers g__law_asked g__law_deeds g__law_deeds_due g__law_done g__law_need g__law_numbers g__law_pick g__law_refused g__law_same g__law_spoilt g__law_tree g_accept_deeds g_accept_numbers g_run_deeds g__law_start b__law_start F__law_start.kp m_g__law_start pl F_law
end Law

namespace Law
open PySem L2 Dl
local macro_rules
  | `(tactic| push_cast [$xs,*]) => `(tactic| simp only [Dl.gd0, Dl.gdS, Dl.st0, Dl.stS, Dl.bd_ok, Dl.bd_ex, Dl.bd_bad, Dl.bd_if, Dl.bA_ok, Dl.bA_ex, Dl.bA_bad, Dl.bA_if, Dl.ou_ok, Dl.ou_ex, Dl.ou_bad, Dl.ou_if, Dl.sq_nx, Dl.sq_rt, Dl.sq_bk, Dl.sq_ct, Dl.sq_ex, Dl.sq_bad, Dl.sq_if, Dl.td_d, Dl.td_s, Dl.tds_0, Dl.tds_S, Dl.fz_d, Dl.fz_s, Dl.fzs_0, Dl.fzs_S, Dl.fz1_s, Dl.fz2_s, Dl.e_cst, Dl.e_var, Dl.var_d, Dl.var_own, Dl.var_bor, Dl.var_odk, Dl.var_odt, Dl.var_bdk, Dl.var_bdt, Dl.of_s, Dl.of_n, Dl.of_if, Dl.o1_s, Dl.o2_s, Dl.oA_s, Dl.e_op1, Dl.e_op2, Dl.ev_0, Dl.ev_S, Dl.evB_ok, Dl.evB_ex, Dl.evB_bad, Dl.evB_if, Dl.evC_ok, Dl.evC_ex, Dl.evC_bad, Dl.evC_if, Dl.e_opA, Dl.oTru_s, Dl.oTru2_s, Dl.e_tru, Dl.e_and, Dl.e_or, Dl.e_not, Dl.e_ifE, Dl.kAnd_b, Dl.kOr_b, Dl.kNot_b, Dl.kIfE_b, Dl.e_andV, Dl.e_orV, Dl.oAndV_b, Dl.oOrV_b, Dl.e_notV, Dl.e_chain, Dl.chn_1, Dl.chn_2, Dl.och0_s, Dl.och_b, Dl.e_tup, Dl.e_lst, Dl.oTup_s, Dl.oLst_s, Dl.e_frz, Dl.oFz_s, Dl.pt_0, Dl.pt_1, Dl.pOf_i, Dl.sl2_s, Dl.sl1_s, Dl.sl3_s, Dl.e_sl, Dl.e_ofN, Dl.oN_d, Dl.oN_own, Dl.oN_odk, Dl.oN_odt, Dl.oN_bor, Dl.oN_bdk, Dl.oN_bdt, Dl.oN_r, Dl.oN_n, Dl.oN_if, Dl.e_call, Dl.cN_ok, Dl.cN_ex, Dl.cN_bad, Dl.cN_if, Dl.e_callA, Dl.cA1_s, Dl.cA2_r, Dl.cA2_x, Dl.cA2_b, Dl.cA2_if, Dl.di_0, Dl.di_d, Dl.so_d, Dl.so_s, Dl.di_s, Dl.di1_0, Dl.di1_d, Dl.at_d, Dl.at_s, Dl.arg1_o, Dl.arg1_l, Dl.arg1_b, Dl.ats_0, Dl.ats_S, Dl.oC_s, Dl.pu_0, Dl.pu_S, Dl.pu1_s, Dl.pu1_n, Dl.e_callV, Dl.cV1_s, Dl.cV2_s, Dl.s_seq, Dl.s_nx, Dl.s_bk, Dl.s_ct, Dl.s_expr, Dl.kX_e, Dl.s_asg, Dl.as1_s, Dl.s_ret, Dl.kRt_d, Dl.kRt_s, Dl.rt1_o, Dl.s_retNone, Dl.s_if, Dl.kIf_b, Dl.s_asgN, Dl.s_retN, Dl.aN_s, Dl.aN_r, Dl.rN_s, Dl.rN_r, Dl.aN_b, Dl.rN_b, Dl.aN_if, Dl.rN_if, Dl.s_asgG, Dl.g1_s, Dl.g2_s, Dl.aT_n, Dl.aT_p, Dl.aT_l, Dl.s_asgU, Dl.aU_s, Dl.aTs_0, Dl.aTs_n, Dl.s_asgR, Dl.gR_s, Dl.s_raise, Dl.rs1_s, Dl.s_try, Dl.tr1_r, Dl.tr1_n, Dl.tr1_x, Dl.tr1_b, Dl.tr1_if, Dl.un_r, Dl.un_x, Dl.un_b, Dl.un_if, Dl.e_isX, Dl.ix1_s, Dl.e_atX, Dl.ax1_s, Dl.e_newA, Dl.nA_ok, Dl.nA1_s, Dl.nA2_s, Dl.e_newL, Dl.nL_ok, Dl.nL_ex, Dl.nL_b, Dl.nL_if, Dl.nL1_s, Dl.e_me, Dl.me1_s, Dl.me3_s, Dl.e_ch, Dl.ch0_o, Dl.ch1_s, Dl.ch2_s, Dl.ch3_s, Dl.ch3_if, Dl.s_setIx, Dl.si1_s, Dl.si2_o, Dl.si3_s, Dl.si4_s, Dl.s_aug, Dl.ag1_d, Dl.ag2_s, Dl.ag3_s, Dl.s_for, Dl.fS_s, Dl.fS_if, Dl.fL_0, Dl.fL1_s, Dl.fL2_n, Dl.fL2_c, Dl.fL2_b, Dl.fL2_r, Dl.fL2_if, Dl.e_ixE, Dl.iE_l, Dl.iE_t, Dl.iE_s, Dl.iE2_b, Dl.e_ixR1, Dl.e_ixR2, Dl.kWh_t, Dl.kWh_f, Dl.wh1_n, Dl.wh1_c, Dl.wh1_b, Dl.wh1_r, Dl.e_backAt, Dl.bk1_b, Dl.bk_n, Dl.bk_b, Dl.bk_c, Dl.bk_r, Dl.bkO_s, Dl.bk_if, Dl.s_lock, Dl.lkS_o, Dl.lkS_d, Dl.lkS_b, Dl.bkN_s, Dl.bkN1_s, Dl.e_lockN, Dl.lkN_o, Dl.lkN_d, Dl.lkN_b, Dl.rst1_d, Dl.rst1_n, Dl.wp_0, Dl.wp_S, Dl.rd_0, Dl.rd_S, Dl.lcR1_s, Dl.lcR2_s, Dl.lc_0, Dl.lc1_s, Dl.lc2_b, Dl.lc3_s, Dl.lc4_s, Dl.ts_n, Dl.ts_s, Dl.fE_n, Dl.fE_r, Dl.fE_x, Dl.fE_b, Dl.fE_if, Dl.en_0, Dl.en_1, Dl.okT_d, Dl.okT_o, Dl.oRt_s, Dl.fE_of, Dl.kop1, Dl.kop2, Dl.kop2b, Dl.kopA, Dl.kTru, Dl.kFz, Dl.kAndV, Dl.kOrV, Dl.kch1, Dl.kch2, Dl.kTup, Dl.kLst, Dl.kSl, Dl.tdO, Dl.T.dat, Dl.fzO, Dl.kAs, Dl.kG, Dl.kU, Dl.kR, Dl.kRs, Dl.kMe, Dl.kMe2, Dl.kCh, Dl.kSi, Dl.kSi3, Dl.kAg, Dl.slO, Dl.uAt, Option.bind_some, Option.map_some, List.getElem?_cons_zero, List.getElem?_cons_succ, List.set_cons_zero, List.set_cons_succ, List.length_cons, List.length_nil, Bool.true_and, Bool.and_true, Bool.not_true, Bool.not_false, if_true, if_false, Bool.false_eq_true, decide_eq_true_eq, Nat.zero_add, Nat.reduceAdd, Nat.reduceLT, List.nil_append, List.cons_append, List.isEmpty_cons, List.isEmpty_nil, Dl.geq_i, Dl.it_l, Dl.gx_l, Dl.gx_t, Dl.at_0, Dl.at_1, Dl.at_2, Dl.at_3, Dl.at_4, Dl.at_5, Dl.at_6, Dl.at_7, Dl.at_8, Dl.at_9, Dl.tr_b, Dl.tr_i, Dl.tr_n, Dl.tr_l, Dl.tr_t, Dl.gadd_i, Dl.gsub_i, Dl.gneg_i, Dl.glt_i, Dl.gle_i, Dl.ggt_i, Dl.gge_i, Dl.gaddI_i, Dl.gne_i, Dl.glen_l, Dl.glen_t, Dl.gint_i, Dl.gmin2_i, Dl.gmax2_i, Dl.gmaxL_2, Dl.gminL_2, Dl.gabs_i, Dl.geq_s, Dl.gne_s, Dl.q_ixEn, Dl.iN_l, Dl.iN_t, Dl.q_ixR3, Dl.grev_l, Dl.grev_t, Dl.q_dN, Dl.q_dN1, Dl.q_dN2, Dl.q_evN0, Dl.q_evNS, Dl.q_eN1, Dl.q_eN2, Dl.q_asgP, Dl.q_aP1, Dl.q_aP2, Dl.q_set0, Dl.q_setS, List.reverse_cons, List.reverse_nil, $xs,*])

/-- a state of the draws -/
theorem v_draw {ns : List Int} {l : List D} {many : Int} (h : St ns l) (h1 : 1 ≤ many) (h2 : many < 2 ^ 64) : ∃ v l', St ns l' ∧ 0 ≤ v ∧ v < many ∧ m__law_draw [.own l, .d (.int many)] = .ret (.d (.int v)) [some (.own l')] := by
  obtain ⟨a, b, seed, rfl, ha, hb, hb2, hs⟩ := h
  have gm1 := gmod_i (i := seed * 48271 + 69621) (j := 2147483629) (by decide)
  have gm2 := gmul_r (i := seed) (j := 48271) (by decide) (by decide)
  have gm3 := fun i => gmod_i (i := i) (j := many) (by omega)
  have gm4 := fun i => gfdiv_i (i := i) (j := many) h1 h2
  have gm5 := fun i => gfdiv_i (i := i) (j := 13) (by decide) (by decide)
  rw [u__law_draw]
  unfold b__law_draw
  by_cases a0 : a = 0
  · subst a0
    by_cases b0 : (ns.length : Int) ≤ b
    · simp only [Dl.gd0, Dl.gdS, Dl.st0, Dl.stS, Dl.bd_ok, Dl.bd_ex, Dl.bd_bad, Dl.bd_if, Dl.bA_ok, Dl.bA_ex, Dl.bA_bad, Dl.bA_if, Dl.ou_ok, Dl.ou_ex, Dl.ou_bad, Dl.ou_if, Dl.sq_nx, Dl.sq_rt, Dl.sq_bk, Dl.sq_ct, Dl.sq_ex, Dl.sq_bad, Dl.sq_if, Dl.td_d, Dl.td_s, Dl.tds_0, Dl.tds_S, Dl.fz_d, Dl.fz_s, Dl.fzs_0, Dl.fzs_S, Dl.fz1_s, Dl.fz2_s, Dl.e_cst, Dl.e_var, Dl.var_d, Dl.var_own, Dl.var_bor, Dl.var_odk, Dl.var_odt, Dl.var_bdk, Dl.var_bdt, Dl.of_s, Dl.of_n, Dl.of_if, Dl.o1_s, Dl.o2_s, Dl.oA_s, Dl.e_op1, Dl.e_op2, Dl.ev_0, Dl.ev_S, Dl.evB_ok, Dl.evB_ex, Dl.evB_bad, Dl.evB_if, Dl.evC_ok, Dl.evC_ex, Dl.evC_bad, Dl.evC_if, Dl.e_opA, Dl.oTru_s, Dl.oTru2_s, Dl.e_tru, Dl.e_and, Dl.e_or, Dl.e_not, Dl.e_ifE, Dl.kAnd_b, Dl.kOr_b, Dl.kNot_b, Dl.kIfE_b, Dl.e_andV, Dl.e_orV, Dl.oAndV_b, Dl.oOrV_b, Dl.e_notV, Dl.e_chain, Dl.chn_1, Dl.chn_2, Dl.och0_s, Dl.och_b, Dl.e_tup, Dl.e_lst, Dl.oTup_s, Dl.oLst_s, Dl.e_frz, Dl.oFz_s, Dl.pt_0, Dl.pt_1, Dl.pOf_i, Dl.sl2_s, Dl.sl1_s, Dl.sl3_s, Dl.e_sl, Dl.e_ofN, Dl.oN_d, Dl.oN_own, Dl.oN_odk, Dl.oN_odt, Dl.oN_bor, Dl.oN_bdk, Dl.oN_bdt, Dl.oN_r, Dl.oN_n, Dl.oN_if, Dl.e_call, Dl.cN_ok, Dl.cN_ex, Dl.cN_bad, Dl.cN_if, Dl.e_callA, Dl.cA1_s, Dl.cA2_r, Dl.cA2_x, Dl.cA2_b, Dl.cA2_if, Dl.di_0, Dl.di_d, Dl.so_d, Dl.so_s, Dl.di_s, Dl.di1_0, Dl.di1_d, Dl.at_d, Dl.at_s, Dl.arg1_o, Dl.arg1_l, Dl.arg1_b, Dl.ats_0, Dl.ats_S, Dl.oC_s, Dl.pu_0, Dl.pu_S, Dl.pu1_s, Dl.pu1_n, Dl.e_callV, Dl.cV1_s, Dl.cV2_s, Dl.s_seq, Dl.s_nx, Dl.s_bk, Dl.s_ct, Dl.s_expr, Dl.kX_e, Dl.s_asg, Dl.as1_s, Dl.s_ret, Dl.kRt_d, Dl.kRt_s, Dl.rt1_o, Dl.s_retNone, Dl.s_if, Dl.kIf_b, Dl.s_asgN, Dl.s_retN, Dl.aN_s, Dl.aN_r, Dl.rN_s, Dl.rN_r, Dl.aN_b, Dl.rN_b, Dl.aN_if, Dl.rN_if, Dl.s_asgG, Dl.g1_s, Dl.g2_s, Dl.aT_n, Dl.aT_p, Dl.aT_l, Dl.s_asgU, Dl.aU_s, Dl.aTs_0, Dl.aTs_n, Dl.s_asgR, Dl.gR_s, Dl.s_raise, Dl.rs1_s, Dl.s_try, Dl.tr1_r, Dl.tr1_n, Dl.tr1_x, Dl.tr1_b, Dl.tr1_if, Dl.un_r, Dl.un_x, Dl.un_b, Dl.un_if, Dl.e_isX, Dl.ix1_s, Dl.e_atX, Dl.ax1_s, Dl.e_newA, Dl.nA_ok, Dl.nA1_s, Dl.nA2_s, Dl.e_newL, Dl.nL_ok, Dl.nL_ex, Dl.nL_b, Dl.nL_if, Dl.nL1_s, Dl.e_me, Dl.me1_s, Dl.me3_s, Dl.e_ch, Dl.ch0_o, Dl.ch1_s, Dl.ch2_s, Dl.ch3_s, Dl.ch3_if, Dl.s_setIx, Dl.si1_s, Dl.si2_o, Dl.si3_s, Dl.si4_s, Dl.s_aug, Dl.ag1_d, Dl.ag2_s, Dl.ag3_s, Dl.s_for, Dl.fS_s, Dl.fS_if, Dl.fL_0, Dl.fL1_s, Dl.fL2_n, Dl.fL2_c, Dl.fL2_b, Dl.fL2_r, Dl.fL2_if, Dl.e_ixE, Dl.iE_l, Dl.iE_t, Dl.iE_s, Dl.iE2_b, Dl.e_ixR1, Dl.e_ixR2, Dl.kWh_t, Dl.kWh_f, Dl.wh1_n, Dl.wh1_c, Dl.wh1_b, Dl.wh1_r, Dl.e_backAt, Dl.bk1_b, Dl.bk_n, Dl.bk_b, Dl.bk_c, Dl.bk_r, Dl.bkO_s, Dl.bk_if, Dl.s_lock, Dl.lkS_o, Dl.lkS_d, Dl.lkS_b, Dl.bkN_s, Dl.bkN1_s, Dl.e_lockN, Dl.lkN_o, Dl.lkN_d, Dl.lkN_b, Dl.rst1_d, Dl.rst1_n, Dl.wp_0, Dl.wp_S, Dl.rd_0, Dl.rd_S, Dl.e_lcN, Dl.lcR1_s, Dl.lcR2_s, Dl.lc_0, Dl.lc1_s, Dl.lc2_b, Dl.lc3_s, Dl.lc4_s, Dl.ts_n, Dl.ts_s, Dl.fE_n, Dl.fE_r, Dl.fE_x, Dl.fE_b, Dl.fE_if, Dl.en_0, Dl.en_1, Dl.okT_d, Dl.okT_o, Dl.oRt_s, Dl.fE_of, Dl.kop1, Dl.kop2, Dl.kop2b, Dl.kopA, Dl.kTru, Dl.kFz, Dl.kAndV, Dl.kOrV, Dl.kch1, Dl.kch2, Dl.kTup, Dl.kLst, Dl.kSl, Dl.tdO, Dl.T.dat, Dl.fzO, Dl.kAs, Dl.kG, Dl.kU, Dl.kR, Dl.kRs, Dl.kMe, Dl.kMe2, Dl.kCh, Dl.kSi, Dl.kSi3, Dl.kAg, Dl.slO, Dl.uAt, Option.bind_some, Option.map_some, List.getElem?_cons_zero, List.getElem?_cons_succ, List.set_cons_zero, List.set_cons_succ, List.length_cons, List.length_nil, Bool.true_and, Bool.and_true, Bool.not_true, Bool.not_false, if_true, if_false, Bool.false_eq_true, decide_eq_true_eq, Nat.zero_add, Nat.reduceAdd, Nat.reduceLT, List.nil_append, List.cons_append, List.isEmpty_cons, List.isEmpty_nil, Dl.geq_i, Dl.it_l, Dl.gx_l, Dl.gx_t, Dl.at_0, Dl.at_1, Dl.at_2, Dl.at_3, Dl.at_4, Dl.at_5, Dl.at_6, Dl.at_7, Dl.at_8, Dl.at_9, Dl.tr_b, Dl.tr_i, Dl.tr_n, Dl.tr_l, Dl.tr_t, Dl.gadd_i, Dl.gsub_i, Dl.gneg_i, Dl.glt_i, Dl.gle_i, Dl.ggt_i, Dl.gge_i, Dl.gaddI_i, Dl.gne_i, Dl.glen_l, Dl.glen_t, Dl.gint_i, Dl.gmin2_i, Dl.gmax2_i, Dl.gmaxL_2, Dl.gminL_2, Dl.gabs_i, Dl.geq_s, Dl.gne_s, stD, gm1, gm2, gm3, gm4, gm5, b0, ix_0, ix_1, ix_2, ix_3, List.length_map, decide_true, decide_false]
      refine ⟨_, _, ⟨0, b, _, rfl, by omega, hb, hb2, ?_⟩, ?_, ?_, rfl⟩
      · exact Int.emod_nonneg _ (by decide)
      · exact Int.emod_nonneg _ (by omega)
      · exact Int.emod_lt_of_pos _ (by omega)
    · obtain ⟨n, rfl⟩ := Int.eq_ofNat_of_zero_le hb
      have hn : n < ns.length := by omega
      have ea : atI (List.map PyData.int ns) (n : Int) = some (.int ns[n]) := by
        rw [at_n, List.getElem?_map, List.getElem?_eq_getElem hn]
        rfl
      simp only [Dl.gd0, Dl.gdS, Dl.st0, Dl.stS, Dl.bd_ok, Dl.bd_ex, Dl.bd_bad, Dl.bd_if, Dl.bA_ok, Dl.bA_ex, Dl.bA_bad, Dl.bA_if, Dl.ou_ok, Dl.ou_ex, Dl.ou_bad, Dl.ou_if, Dl.sq_nx, Dl.sq_rt, Dl.sq_bk, Dl.sq_ct, Dl.sq_ex, Dl.sq_bad, Dl.sq_if, Dl.td_d, Dl.td_s, Dl.tds_0, Dl.tds_S, Dl.fz_d, Dl.fz_s, Dl.fzs_0, Dl.fzs_S, Dl.fz1_s, Dl.fz2_s, Dl.e_cst, Dl.e_var, Dl.var_d, Dl.var_own, Dl.var_bor, Dl.var_odk, Dl.var_odt, Dl.var_bdk, Dl.var_bdt, Dl.of_s, Dl.of_n, Dl.of_if, Dl.o1_s, Dl.o2_s, Dl.oA_s, Dl.e_op1, Dl.e_op2, Dl.ev_0, Dl.ev_S, Dl.evB_ok, Dl.evB_ex, Dl.evB_bad, Dl.evB_if, Dl.evC_ok, Dl.evC_ex, Dl.evC_bad, Dl.evC_if, Dl.e_opA, Dl.oTru_s, Dl.oTru2_s, Dl.e_tru, Dl.e_and, Dl.e_or, Dl.e_not, Dl.e_ifE, Dl.kAnd_b, Dl.kOr_b, Dl.kNot_b, Dl.kIfE_b, Dl.e_andV, Dl.e_orV, Dl.oAndV_b, Dl.oOrV_b, Dl.e_notV, Dl.e_chain, Dl.chn_1, Dl.chn_2, Dl.och0_s, Dl.och_b, Dl.e_tup, Dl.e_lst, Dl.oTup_s, Dl.oLst_s, Dl.e_frz, Dl.oFz_s, Dl.pt_0, Dl.pt_1, Dl.pOf_i, Dl.sl2_s, Dl.sl1_s, Dl.sl3_s, Dl.e_sl, Dl.e_ofN, Dl.oN_d, Dl.oN_own, Dl.oN_odk, Dl.oN_odt, Dl.oN_bor, Dl.oN_bdk, Dl.oN_bdt, Dl.oN_r, Dl.oN_n, Dl.oN_if, Dl.e_call, Dl.cN_ok, Dl.cN_ex, Dl.cN_bad, Dl.cN_if, Dl.e_callA, Dl.cA1_s, Dl.cA2_r, Dl.cA2_x, Dl.cA2_b, Dl.cA2_if, Dl.di_0, Dl.di_d, Dl.so_d, Dl.so_s, Dl.di_s, Dl.di1_0, Dl.di1_d, Dl.at_d, Dl.at_s, Dl.arg1_o, Dl.arg1_l, Dl.arg1_b, Dl.ats_0, Dl.ats_S, Dl.oC_s, Dl.pu_0, Dl.pu_S, Dl.pu1_s, Dl.pu1_n, Dl.e_callV, Dl.cV1_s, Dl.cV2_s, Dl.s_seq, Dl.s_nx, Dl.s_bk, Dl.s_ct, Dl.s_expr, Dl.kX_e, Dl.s_asg, Dl.as1_s, Dl.s_ret, Dl.kRt_d, Dl.kRt_s, Dl.rt1_o, Dl.s_retNone, Dl.s_if, Dl.kIf_b, Dl.s_asgN, Dl.s_retN, Dl.aN_s, Dl.aN_r, Dl.rN_s, Dl.rN_r, Dl.aN_b, Dl.rN_b, Dl.aN_if, Dl.rN_if, Dl.s_asgG, Dl.g1_s, Dl.g2_s, Dl.aT_n, Dl.aT_p, Dl.aT_l, Dl.s_asgU, Dl.aU_s, Dl.aTs_0, Dl.aTs_n, Dl.s_asgR, Dl.gR_s, Dl.s_raise, Dl.rs1_s, Dl.s_try, Dl.tr1_r, Dl.tr1_n, Dl.tr1_x, Dl.tr1_b, Dl.tr1_if, Dl.un_r, Dl.un_x, Dl.un_b, Dl.un_if, Dl.e_isX, Dl.ix1_s, Dl.e_atX, Dl.ax1_s, Dl.e_newA, Dl.nA_ok, Dl.nA1_s, Dl.nA2_s, Dl.e_newL, Dl.nL_ok, Dl.nL_ex, Dl.nL_b, Dl.nL_if, Dl.nL1_s, Dl.e_me, Dl.me1_s, Dl.me3_s, Dl.e_ch, Dl.ch0_o, Dl.ch1_s, Dl.ch2_s, Dl.ch3_s, Dl.ch3_if, Dl.s_setIx, Dl.si1_s, Dl.si2_o, Dl.si3_s, Dl.si4_s, Dl.s_aug, Dl.ag1_d, Dl.ag2_s, Dl.ag3_s, Dl.s_for, Dl.fS_s, Dl.fS_if, Dl.fL_0, Dl.fL1_s, Dl.fL2_n, Dl.fL2_c, Dl.fL2_b, Dl.fL2_r, Dl.fL2_if, Dl.e_ixE, Dl.iE_l, Dl.iE_t, Dl.iE_s, Dl.iE2_b, Dl.e_ixR1, Dl.e_ixR2, Dl.kWh_t, Dl.kWh_f, Dl.wh1_n, Dl.wh1_c, Dl.wh1_b, Dl.wh1_r, Dl.e_backAt, Dl.bk1_b, Dl.bk_n, Dl.bk_b, Dl.bk_c, Dl.bk_r, Dl.bkO_s, Dl.bk_if, Dl.s_lock, Dl.lkS_o, Dl.lkS_d, Dl.lkS_b, Dl.bkN_s, Dl.bkN1_s, Dl.e_lockN, Dl.lkN_o, Dl.lkN_d, Dl.lkN_b, Dl.rst1_d, Dl.rst1_n, Dl.wp_0, Dl.wp_S, Dl.rd_0, Dl.rd_S, Dl.e_lcN, Dl.lcR1_s, Dl.lcR2_s, Dl.lc_0, Dl.lc1_s, Dl.lc2_b, Dl.lc3_s, Dl.lc4_s, Dl.ts_n, Dl.ts_s, Dl.fE_n, Dl.fE_r, Dl.fE_x, Dl.fE_b, Dl.fE_if, Dl.en_0, Dl.en_1, Dl.okT_d, Dl.okT_o, Dl.oRt_s, Dl.fE_of, Dl.kop1, Dl.kop2, Dl.kop2b, Dl.kopA, Dl.kTru, Dl.kFz, Dl.kAndV, Dl.kOrV, Dl.kch1, Dl.kch2, Dl.kTup, Dl.kLst, Dl.kSl, Dl.tdO, Dl.T.dat, Dl.fzO, Dl.kAs, Dl.kG, Dl.kU, Dl.kR, Dl.kRs, Dl.kMe, Dl.kMe2, Dl.kCh, Dl.kSi, Dl.kSi3, Dl.kAg, Dl.slO, Dl.uAt, Option.bind_some, Option.map_some, List.getElem?_cons_zero, List.getElem?_cons_succ, List.set_cons_zero, List.set_cons_succ, List.length_cons, List.length_nil, Bool.true_and, Bool.and_true, Bool.not_true, Bool.not_false, if_true, if_false, Bool.false_eq_true, decide_eq_true_eq, Nat.zero_add, Nat.reduceAdd, Nat.reduceLT, List.nil_append, List.cons_append, List.isEmpty_cons, List.isEmpty_nil, Dl.geq_i, Dl.it_l, Dl.gx_l, Dl.gx_t, Dl.at_0, Dl.at_1, Dl.at_2, Dl.at_3, Dl.at_4, Dl.at_5, Dl.at_6, Dl.at_7, Dl.at_8, Dl.at_9, Dl.tr_b, Dl.tr_i, Dl.tr_n, Dl.tr_l, Dl.tr_t, Dl.gadd_i, Dl.gsub_i, Dl.gneg_i, Dl.glt_i, Dl.gle_i, Dl.ggt_i, Dl.gge_i, Dl.gaddI_i, Dl.gne_i, Dl.glen_l, Dl.glen_t, Dl.gint_i, Dl.gmin2_i, Dl.gmax2_i, Dl.gmaxL_2, Dl.gminL_2, Dl.gabs_i, Dl.geq_s, Dl.gne_s, stD, gm1, gm2, gm3, gm4, gm5, b0, ix_0, ix_1, ix_2, ix_3, List.length_map, decide_true, decide_false, ea]
      refine ⟨_, _, ⟨_, _, seed, rfl, ?_, ?_, ?_, hs⟩, ?_, ?_, rfl⟩
      · exact Int.ediv_nonneg (by split <;> omega) (by omega)
      · omega
      · omega
      · exact Int.emod_nonneg _ (by omega)
      · exact Int.emod_lt_of_pos _ (by omega)
  · simp only [Dl.gd0, Dl.gdS, Dl.st0, Dl.stS, Dl.bd_ok, Dl.bd_ex, Dl.bd_bad, Dl.bd_if, Dl.bA_ok, Dl.bA_ex, Dl.bA_bad, Dl.bA_if, Dl.ou_ok, Dl.ou_ex, Dl.ou_bad, Dl.ou_if, Dl.sq_nx, Dl.sq_rt, Dl.sq_bk, Dl.sq_ct, Dl.sq_ex, Dl.sq_bad, Dl.sq_if, Dl.td_d, Dl.td_s, Dl.tds_0, Dl.tds_S, Dl.fz_d, Dl.fz_s, Dl.fzs_0, Dl.fzs_S, Dl.fz1_s, Dl.fz2_s, Dl.e_cst, Dl.e_var, Dl.var_d, Dl.var_own, Dl.var_bor, Dl.var_odk, Dl.var_odt, Dl.var_bdk, Dl.var_bdt, Dl.of_s, Dl.of_n, Dl.of_if, Dl.o1_s, Dl.o2_s, Dl.oA_s, Dl.e_op1, Dl.e_op2, Dl.ev_0, Dl.ev_S, Dl.evB_ok, Dl.evB_ex, Dl.evB_bad, Dl.evB_if, Dl.evC_ok, Dl.evC_ex, Dl.evC_bad, Dl.evC_if, Dl.e_opA, Dl.oTru_s, Dl.oTru2_s, Dl.e_tru, Dl.e_and, Dl.e_or, Dl.e_not, Dl.e_ifE, Dl.kAnd_b, Dl.kOr_b, Dl.kNot_b, Dl.kIfE_b, Dl.e_andV, Dl.e_orV, Dl.oAndV_b, Dl.oOrV_b, Dl.e_notV, Dl.e_chain, Dl.chn_1, Dl.chn_2, Dl.och0_s, Dl.och_b, Dl.e_tup, Dl.e_lst, Dl.oTup_s, Dl.oLst_s, Dl.e_frz, Dl.oFz_s, Dl.pt_0, Dl.pt_1, Dl.pOf_i, Dl.sl2_s, Dl.sl1_s, Dl.sl3_s, Dl.e_sl, Dl.e_ofN, Dl.oN_d, Dl.oN_own, Dl.oN_odk, Dl.oN_odt, Dl.oN_bor, Dl.oN_bdk, Dl.oN_bdt, Dl.oN_r, Dl.oN_n, Dl.oN_if, Dl.e_call, Dl.cN_ok, Dl.cN_ex, Dl.cN_bad, Dl.cN_if, Dl.e_callA, Dl.cA1_s, Dl.cA2_r, Dl.cA2_x, Dl.cA2_b, Dl.cA2_if, Dl.di_0, Dl.di_d, Dl.so_d, Dl.so_s, Dl.di_s, Dl.di1_0, Dl.di1_d, Dl.at_d, Dl.at_s, Dl.arg1_o, Dl.arg1_l, Dl.arg1_b, Dl.ats_0, Dl.ats_S, Dl.oC_s, Dl.pu_0, Dl.pu_S, Dl.pu1_s, Dl.pu1_n, Dl.e_callV, Dl.cV1_s, Dl.cV2_s, Dl.s_seq, Dl.s_nx, Dl.s_bk, Dl.s_ct, Dl.s_expr, Dl.kX_e, Dl.s_asg, Dl.as1_s, Dl.s_ret, Dl.kRt_d, Dl.kRt_s, Dl.rt1_o, Dl.s_retNone, Dl.s_if, Dl.kIf_b, Dl.s_asgN, Dl.s_retN, Dl.aN_s, Dl.aN_r, Dl.rN_s, Dl.rN_r, Dl.aN_b, Dl.rN_b, Dl.aN_if, Dl.rN_if, Dl.s_asgG, Dl.g1_s, Dl.g2_s, Dl.aT_n, Dl.aT_p, Dl.aT_l, Dl.s_asgU, Dl.aU_s, Dl.aTs_0, Dl.aTs_n, Dl.s_asgR, Dl.gR_s, Dl.s_raise, Dl.rs1_s, Dl.s_try, Dl.tr1_r, Dl.tr1_n, Dl.tr1_x, Dl.tr1_b, Dl.tr1_if, Dl.un_r, Dl.un_x, Dl.un_b, Dl.un_if, Dl.e_isX, Dl.ix1_s, Dl.e_atX, Dl.ax1_s, Dl.e_newA, Dl.nA_ok, Dl.nA1_s, Dl.nA2_s, Dl.e_newL, Dl.nL_ok, Dl.nL_ex, Dl.nL_b, Dl.nL_if, Dl.nL1_s, Dl.e_me, Dl.me1_s, Dl.me3_s, Dl.e_ch, Dl.ch0_o, Dl.ch1_s, Dl.ch2_s, Dl.ch3_s, Dl.ch3_if, Dl.s_setIx, Dl.si1_s, Dl.si2_o, Dl.si3_s, Dl.si4_s, Dl.s_aug, Dl.ag1_d, Dl.ag2_s, Dl.ag3_s, Dl.s_for, Dl.fS_s, Dl.fS_if, Dl.fL_0, Dl.fL1_s, Dl.fL2_n, Dl.fL2_c, Dl.fL2_b, Dl.fL2_r, Dl.fL2_if, Dl.e_ixE, Dl.iE_l, Dl.iE_t, Dl.iE_s, Dl.iE2_b, Dl.e_ixR1, Dl.e_ixR2, Dl.kWh_t, Dl.kWh_f, Dl.wh1_n, Dl.wh1_c, Dl.wh1_b, Dl.wh1_r, Dl.e_backAt, Dl.bk1_b, Dl.bk_n, Dl.bk_b, Dl.bk_c, Dl.bk_r, Dl.bkO_s, Dl.bk_if, Dl.s_lock, Dl.lkS_o, Dl.lkS_d, Dl.lkS_b, Dl.bkN_s, Dl.bkN1_s, Dl.e_lockN, Dl.lkN_o, Dl.lkN_d, Dl.lkN_b, Dl.rst1_d, Dl.rst1_n, Dl.wp_0, Dl.wp_S, Dl.rd_0, Dl.rd_S, Dl.e_lcN, Dl.lcR1_s, Dl.lcR2_s, Dl.lc_0, Dl.lc1_s, Dl.lc2_b, Dl.lc3_s, Dl.lc4_s, Dl.ts_n, Dl.ts_s, Dl.fE_n, Dl.fE_r, Dl.fE_x, Dl.fE_b, Dl.fE_if, Dl.en_0, Dl.en_1, Dl.okT_d, Dl.okT_o, Dl.oRt_s, Dl.fE_of, Dl.kop1, Dl.kop2, Dl.kop2b, Dl.kopA, Dl.kTru, Dl.kFz, Dl.kAndV, Dl.kOrV, Dl.kch1, Dl.kch2, Dl.kTup, Dl.kLst, Dl.kSl, Dl.tdO, Dl.T.dat, Dl.fzO, Dl.kAs, Dl.kG, Dl.kU, Dl.kR, Dl.kRs, Dl.kMe, Dl.kMe2, Dl.kCh, Dl.kSi, Dl.kSi3, Dl.kAg, Dl.slO, Dl.uAt, Option.bind_some, Option.map_some, List.getElem?_cons_zero, List.getElem?_cons_succ, List.set_cons_zero, List.set_cons_succ, List.length_cons, List.length_nil, Bool.true_and, Bool.and_true, Bool.not_true, Bool.not_false, if_true, if_false, Bool.false_eq_true, decide_eq_true_eq, Nat.zero_add, Nat.reduceAdd, Nat.reduceLT, List.nil_append, List.cons_append, List.isEmpty_cons, List.isEmpty_nil, Dl.geq_i, Dl.it_l, Dl.gx_l, Dl.gx_t, Dl.at_0, Dl.at_1, Dl.at_2, Dl.at_3, Dl.at_4, Dl.at_5, Dl.at_6, Dl.at_7, Dl.at_8, Dl.at_9, Dl.tr_b, Dl.tr_i, Dl.tr_n, Dl.tr_l, Dl.tr_t, Dl.gadd_i, Dl.gsub_i, Dl.gneg_i, Dl.glt_i, Dl.gle_i, Dl.ggt_i, Dl.gge_i, Dl.gaddI_i, Dl.gne_i, Dl.glen_l, Dl.glen_t, Dl.gint_i, Dl.gmin2_i, Dl.gmax2_i, Dl.gmaxL_2, Dl.gminL_2, Dl.gabs_i, Dl.geq_s, Dl.gne_s, stD, gm1, gm2, gm3, gm4, gm5, a0, ix_0, ix_1, ix_2, ix_3, List.length_map, decide_true, decide_false]
    refine ⟨_, _, ⟨_, b, seed, rfl, ?_, hb, hb2, hs⟩, ?_, ?_, rfl⟩
    · exact Int.ediv_nonneg ha (by omega)
    · exact Int.emod_nonneg _ (by omega)
    · exact Int.emod_lt_of_pos _ (by omega)
theorem v_pick {ns : List Int} {l some_ : List D} (h : St ns l) (h1 : some_ ≠ []) (h2 : some_.length < 2 ^ 64) : ∃ x l', St ns l' ∧ x ∈ some_ ∧ m__law_pick [.own l, .d (.list some_)] = .ret (.d x) [some (.own l')] := by
  have hp := List.length_pos_iff.2 h1
  obtain ⟨v, l', hs, v0, v1, e⟩ := v_draw h (many := some_.length) (by omega) (by omega)
  obtain ⟨n, rfl⟩ := Int.eq_ofNat_of_zero_le v0
  have hn : n < some_.length := by omega
  have ea : atI some_ (n : Int) = some some_[n] := by
    rw [at_n, List.getElem?_eq_getElem hn]
  refine ⟨some_[n], l', hs, List.getElem_mem hn, ?_⟩
  rw [u__law_pick]
  unfold b__law_pick
  have c0 : List.contains [0] 0 = true := rfl
  have c1 : List.contains [0] 1 = false := rfl
  simp only [Dl.gd0, Dl.gdS, Dl.st0, Dl.stS, Dl.bd_ok, Dl.bd_ex, Dl.bd_bad, Dl.bd_if, Dl.bA_ok, Dl.bA_ex, Dl.bA_bad, Dl.bA_if, Dl.ou_ok, Dl.ou_ex, Dl.ou_bad, Dl.ou_if, Dl.sq_nx, Dl.sq_rt, Dl.sq_bk, Dl.sq_ct, Dl.sq_ex, Dl.sq_bad, Dl.sq_if, Dl.td_d, Dl.td_s, Dl.tds_0, Dl.tds_S, Dl.fz_d, Dl.fz_s, Dl.fzs_0, Dl.fzs_S, Dl.fz1_s, Dl.fz2_s, Dl.e_cst, Dl.e_var, Dl.var_d, Dl.var_own, Dl.var_bor, Dl.var_odk, Dl.var_odt, Dl.var_bdk, Dl.var_bdt, Dl.of_s, Dl.of_n, Dl.of_if, Dl.o1_s, Dl.o2_s, Dl.oA_s, Dl.e_op1, Dl.e_op2, Dl.ev_0, Dl.ev_S, Dl.evB_ok, Dl.evB_ex, Dl.evB_bad, Dl.evB_if, Dl.evC_ok, Dl.evC_ex, Dl.evC_bad, Dl.evC_if, Dl.e_opA, Dl.oTru_s, Dl.oTru2_s, Dl.e_tru, Dl.e_and, Dl.e_or, Dl.e_not, Dl.e_ifE, Dl.kAnd_b, Dl.kOr_b, Dl.kNot_b, Dl.kIfE_b, Dl.e_andV, Dl.e_orV, Dl.oAndV_b, Dl.oOrV_b, Dl.e_notV, Dl.e_chain, Dl.chn_1, Dl.chn_2, Dl.och0_s, Dl.och_b, Dl.e_tup, Dl.e_lst, Dl.oTup_s, Dl.oLst_s, Dl.e_frz, Dl.oFz_s, Dl.pt_0, Dl.pt_1, Dl.pOf_i, Dl.sl2_s, Dl.sl1_s, Dl.sl3_s, Dl.e_sl, Dl.e_ofN, Dl.oN_d, Dl.oN_own, Dl.oN_odk, Dl.oN_odt, Dl.oN_bor, Dl.oN_bdk, Dl.oN_bdt, Dl.oN_r, Dl.oN_n, Dl.oN_if, Dl.e_call, Dl.cN_ok, Dl.cN_ex, Dl.cN_bad, Dl.cN_if, Dl.e_callA, Dl.cA1_s, Dl.cA2_r, Dl.cA2_x, Dl.cA2_b, Dl.cA2_if, Dl.di_0, Dl.di_d, Dl.so_d, Dl.so_s, Dl.di_s, Dl.di1_0, Dl.di1_d, Dl.at_d, Dl.at_s, Dl.arg1_o, Dl.arg1_l, Dl.arg1_b, Dl.ats_0, Dl.ats_S, Dl.oC_s, Dl.pu_0, Dl.pu_S, Dl.pu1_s, Dl.pu1_n, Dl.e_callV, Dl.cV1_s, Dl.cV2_s, Dl.s_seq, Dl.s_nx, Dl.s_bk, Dl.s_ct, Dl.s_expr, Dl.kX_e, Dl.s_asg, Dl.as1_s, Dl.s_ret, Dl.kRt_d, Dl.kRt_s, Dl.rt1_o, Dl.s_retNone, Dl.s_if, Dl.kIf_b, Dl.s_asgN, Dl.s_retN, Dl.aN_s, Dl.aN_r, Dl.rN_s, Dl.rN_r, Dl.aN_b, Dl.rN_b, Dl.aN_if, Dl.rN_if, Dl.s_asgG, Dl.g1_s, Dl.g2_s, Dl.aT_n, Dl.aT_p, Dl.aT_l, Dl.s_asgU, Dl.aU_s, Dl.aTs_0, Dl.aTs_n, Dl.s_asgR, Dl.gR_s, Dl.s_raise, Dl.rs1_s, Dl.s_try, Dl.tr1_r, Dl.tr1_n, Dl.tr1_x, Dl.tr1_b, Dl.tr1_if, Dl.un_r, Dl.un_x, Dl.un_b, Dl.un_if, Dl.e_isX, Dl.ix1_s, Dl.e_atX, Dl.ax1_s, Dl.e_newA, Dl.nA_ok, Dl.nA1_s, Dl.nA2_s, Dl.e_newL, Dl.nL_ok, Dl.nL_ex, Dl.nL_b, Dl.nL_if, Dl.nL1_s, Dl.e_me, Dl.me1_s, Dl.me3_s, Dl.e_ch, Dl.ch0_o, Dl.ch1_s, Dl.ch2_s, Dl.ch3_s, Dl.ch3_if, Dl.s_setIx, Dl.si1_s, Dl.si2_o, Dl.si3_s, Dl.si4_s, Dl.s_aug, Dl.ag1_d, Dl.ag2_s, Dl.ag3_s, Dl.s_for, Dl.fS_s, Dl.fS_if, Dl.fL_0, Dl.fL1_s, Dl.fL2_n, Dl.fL2_c, Dl.fL2_b, Dl.fL2_r, Dl.fL2_if, Dl.e_ixE, Dl.iE_l, Dl.iE_t, Dl.iE_s, Dl.iE2_b, Dl.e_ixR1, Dl.e_ixR2, Dl.kWh_t, Dl.kWh_f, Dl.wh1_n, Dl.wh1_c, Dl.wh1_b, Dl.wh1_r, Dl.e_backAt, Dl.bk1_b, Dl.bk_n, Dl.bk_b, Dl.bk_c, Dl.bk_r, Dl.bkO_s, Dl.bk_if, Dl.s_lock, Dl.lkS_o, Dl.lkS_d, Dl.lkS_b, Dl.bkN_s, Dl.bkN1_s, Dl.e_lockN, Dl.lkN_o, Dl.lkN_d, Dl.lkN_b, Dl.rst1_d, Dl.rst1_n, Dl.wp_0, Dl.wp_S, Dl.rd_0, Dl.rd_S, Dl.e_lcN, Dl.lcR1_s, Dl.lcR2_s, Dl.lc_0, Dl.lc1_s, Dl.lc2_b, Dl.lc3_s, Dl.lc4_s, Dl.ts_n, Dl.ts_s, Dl.fE_n, Dl.fE_r, Dl.fE_x, Dl.fE_b, Dl.fE_if, Dl.en_0, Dl.en_1, Dl.okT_d, Dl.okT_o, Dl.oRt_s, Dl.fE_of, Dl.kop1, Dl.kop2, Dl.kop2b, Dl.kopA, Dl.kTru, Dl.kFz, Dl.kAndV, Dl.kOrV, Dl.kch1, Dl.kch2, Dl.kTup, Dl.kLst, Dl.kSl, Dl.tdO, Dl.T.dat, Dl.fzO, Dl.kAs, Dl.kG, Dl.kU, Dl.kR, Dl.kRs, Dl.kMe, Dl.kMe2, Dl.kCh, Dl.kSi, Dl.kSi3, Dl.kAg, Dl.slO, Dl.uAt, Option.bind_some, Option.map_some, List.getElem?_cons_zero, List.getElem?_cons_succ, List.set_cons_zero, List.set_cons_succ, List.length_cons, List.length_nil, Bool.true_and, Bool.and_true, Bool.not_true, Bool.not_false, if_true, if_false, Bool.false_eq_true, decide_eq_true_eq, Nat.zero_add, Nat.reduceAdd, Nat.reduceLT, List.nil_append, List.cons_append, List.isEmpty_cons, List.isEmpty_nil, Dl.geq_i, Dl.it_l, Dl.gx_l, Dl.gx_t, Dl.at_0, Dl.at_1, Dl.at_2, Dl.at_3, Dl.at_4, Dl.at_5, Dl.at_6, Dl.at_7, Dl.at_8, Dl.at_9, Dl.tr_b, Dl.tr_i, Dl.tr_n, Dl.tr_l, Dl.tr_t, Dl.gadd_i, Dl.gsub_i, Dl.gneg_i, Dl.glt_i, Dl.gle_i, Dl.ggt_i, Dl.gge_i, Dl.gaddI_i, Dl.gne_i, Dl.glen_l, Dl.glen_t, Dl.gint_i, Dl.gmin2_i, Dl.gmax2_i, Dl.gmaxL_2, Dl.gminL_2, Dl.gabs_i, Dl.geq_s, Dl.gne_s, e, ea, c0, c1]
theorem v_same {x y : D} (e : x = y) (h1 : lay 64 x = true) (h2 : rok x = true) (h3 : rsz x ≤ 16777216) : m__law_same [.d x, .d y] = .ret (.d (.bool true)) [] := by
  subst e
  have e1 := gEq_lay h1 h1
  have e2 := gRepr_lay h1 h2 h3
  rw [u__law_same]
  unfold b__law_same
  simp only [Dl.gd0, Dl.gdS, Dl.st0, Dl.stS, Dl.bd_ok, Dl.bd_ex, Dl.bd_bad, Dl.bd_if, Dl.bA_ok, Dl.bA_ex, Dl.bA_bad, Dl.bA_if, Dl.ou_ok, Dl.ou_ex, Dl.ou_bad, Dl.ou_if, Dl.sq_nx, Dl.sq_rt, Dl.sq_bk, Dl.sq_ct, Dl.sq_ex, Dl.sq_bad, Dl.sq_if, Dl.td_d, Dl.td_s, Dl.tds_0, Dl.tds_S, Dl.fz_d, Dl.fz_s, Dl.fzs_0, Dl.fzs_S, Dl.fz1_s, Dl.fz2_s, Dl.e_cst, Dl.e_var, Dl.var_d, Dl.var_own, Dl.var_bor, Dl.var_odk, Dl.var_odt, Dl.var_bdk, Dl.var_bdt, Dl.of_s, Dl.of_n, Dl.of_if, Dl.o1_s, Dl.o2_s, Dl.oA_s, Dl.e_op1, Dl.e_op2, Dl.ev_0, Dl.ev_S, Dl.evB_ok, Dl.evB_ex, Dl.evB_bad, Dl.evB_if, Dl.evC_ok, Dl.evC_ex, Dl.evC_bad, Dl.evC_if, Dl.e_opA, Dl.oTru_s, Dl.oTru2_s, Dl.e_tru, Dl.e_and, Dl.e_or, Dl.e_not, Dl.e_ifE, Dl.kAnd_b, Dl.kOr_b, Dl.kNot_b, Dl.kIfE_b, Dl.e_andV, Dl.e_orV, Dl.oAndV_b, Dl.oOrV_b, Dl.e_notV, Dl.e_chain, Dl.chn_1, Dl.chn_2, Dl.och0_s, Dl.och_b, Dl.e_tup, Dl.e_lst, Dl.oTup_s, Dl.oLst_s, Dl.e_frz, Dl.oFz_s, Dl.pt_0, Dl.pt_1, Dl.pOf_i, Dl.sl2_s, Dl.sl1_s, Dl.sl3_s, Dl.e_sl, Dl.e_ofN, Dl.oN_d, Dl.oN_own, Dl.oN_odk, Dl.oN_odt, Dl.oN_bor, Dl.oN_bdk, Dl.oN_bdt, Dl.oN_r, Dl.oN_n, Dl.oN_if, Dl.e_call, Dl.cN_ok, Dl.cN_ex, Dl.cN_bad, Dl.cN_if, Dl.e_callA, Dl.cA1_s, Dl.cA2_r, Dl.cA2_x, Dl.cA2_b, Dl.cA2_if, Dl.di_0, Dl.di_d, Dl.so_d, Dl.so_s, Dl.di_s, Dl.di1_0, Dl.di1_d, Dl.at_d, Dl.at_s, Dl.arg1_o, Dl.arg1_l, Dl.arg1_b, Dl.ats_0, Dl.ats_S, Dl.oC_s, Dl.pu_0, Dl.pu_S, Dl.pu1_s, Dl.pu1_n, Dl.e_callV, Dl.cV1_s, Dl.cV2_s, Dl.s_seq, Dl.s_nx, Dl.s_bk, Dl.s_ct, Dl.s_expr, Dl.kX_e, Dl.s_asg, Dl.as1_s, Dl.s_ret, Dl.kRt_d, Dl.kRt_s, Dl.rt1_o, Dl.s_retNone, Dl.s_if, Dl.kIf_b, Dl.s_asgN, Dl.s_retN, Dl.aN_s, Dl.aN_r, Dl.rN_s, Dl.rN_r, Dl.aN_b, Dl.rN_b, Dl.aN_if, Dl.rN_if, Dl.s_asgG, Dl.g1_s, Dl.g2_s, Dl.aT_n, Dl.aT_p, Dl.aT_l, Dl.s_asgU, Dl.aU_s, Dl.aTs_0, Dl.aTs_n, Dl.s_asgR, Dl.gR_s, Dl.s_raise, Dl.rs1_s, Dl.s_try, Dl.tr1_r, Dl.tr1_n, Dl.tr1_x, Dl.tr1_b, Dl.tr1_if, Dl.un_r, Dl.un_x, Dl.un_b, Dl.un_if, Dl.e_isX, Dl.ix1_s, Dl.e_atX, Dl.ax1_s, Dl.e_newA, Dl.nA_ok, Dl.nA1_s, Dl.nA2_s, Dl.e_newL, Dl.nL_ok, Dl.nL_ex, Dl.nL_b, Dl.nL_if, Dl.nL1_s, Dl.e_me, Dl.me1_s, Dl.me3_s, Dl.e_ch, Dl.ch0_o, Dl.ch1_s, Dl.ch2_s, Dl.ch3_s, Dl.ch3_if, Dl.s_setIx, Dl.si1_s, Dl.si2_o, Dl.si3_s, Dl.si4_s, Dl.s_aug, Dl.ag1_d, Dl.ag2_s, Dl.ag3_s, Dl.s_for, Dl.fS_s, Dl.fS_if, Dl.fL_0, Dl.fL1_s, Dl.fL2_n, Dl.fL2_c, Dl.fL2_b, Dl.fL2_r, Dl.fL2_if, Dl.e_ixE, Dl.iE_l, Dl.iE_t, Dl.iE_s, Dl.iE2_b, Dl.e_ixR1, Dl.e_ixR2, Dl.kWh_t, Dl.kWh_f, Dl.wh1_n, Dl.wh1_c, Dl.wh1_b, Dl.wh1_r, Dl.e_backAt, Dl.bk1_b, Dl.bk_n, Dl.bk_b, Dl.bk_c, Dl.bk_r, Dl.bkO_s, Dl.bk_if, Dl.s_lock, Dl.lkS_o, Dl.lkS_d, Dl.lkS_b, Dl.bkN_s, Dl.bkN1_s, Dl.e_lockN, Dl.lkN_o, Dl.lkN_d, Dl.lkN_b, Dl.rst1_d, Dl.rst1_n, Dl.wp_0, Dl.wp_S, Dl.rd_0, Dl.rd_S, Dl.e_lcN, Dl.lcR1_s, Dl.lcR2_s, Dl.lc_0, Dl.lc1_s, Dl.lc2_b, Dl.lc3_s, Dl.lc4_s, Dl.ts_n, Dl.ts_s, Dl.fE_n, Dl.fE_r, Dl.fE_x, Dl.fE_b, Dl.fE_if, Dl.en_0, Dl.en_1, Dl.okT_d, Dl.okT_o, Dl.oRt_s, Dl.fE_of, Dl.kop1, Dl.kop2, Dl.kop2b, Dl.kopA, Dl.kTru, Dl.kFz, Dl.kAndV, Dl.kOrV, Dl.kch1, Dl.kch2, Dl.kTup, Dl.kLst, Dl.kSl, Dl.tdO, Dl.T.dat, Dl.fzO, Dl.kAs, Dl.kG, Dl.kU, Dl.kR, Dl.kRs, Dl.kMe, Dl.kMe2, Dl.kCh, Dl.kSi, Dl.kSi3, Dl.kAg, Dl.slO, Dl.uAt, Option.bind_some, Option.map_some, List.getElem?_cons_zero, List.getElem?_cons_succ, List.set_cons_zero, List.set_cons_succ, List.length_cons, List.length_nil, Bool.true_and, Bool.and_true, Bool.not_true, Bool.not_false, if_true, if_false, Bool.false_eq_true, decide_eq_true_eq, Nat.zero_add, Nat.reduceAdd, Nat.reduceLT, List.nil_append, List.cons_append, List.isEmpty_cons, List.isEmpty_nil, Dl.geq_i, Dl.it_l, Dl.gx_l, Dl.gx_t, Dl.at_0, Dl.at_1, Dl.at_2, Dl.at_3, Dl.at_4, Dl.at_5, Dl.at_6, Dl.at_7, Dl.at_8, Dl.at_9, Dl.tr_b, Dl.tr_i, Dl.tr_n, Dl.tr_l, Dl.tr_t, Dl.gadd_i, Dl.gsub_i, Dl.gneg_i, Dl.glt_i, Dl.gle_i, Dl.ggt_i, Dl.gge_i, Dl.gaddI_i, Dl.gne_i, Dl.glen_l, Dl.glen_t, Dl.gint_i, Dl.gmin2_i, Dl.gmax2_i, Dl.gmaxL_2, Dl.gminL_2, Dl.gabs_i, Dl.geq_s, Dl.gne_s, e1, e2, eqv_refl x 64 h1, beq_self_eq_true]
def askT : T → Fo
  | .d v => .ret (.d (.list [v])) []
  | .own l => .ret (.d (.list [.list l])) []
  | .odk l => .ret (.d (.list [kvD l])) []
  | .odt l => .ret (.d (.list [tvD l])) []
  | _ => .bad
def wordR : Fo → Fo
  | .ret t _ => .ret t []
  | _ => .bad
def askR : Fo → Fo
  | .ret t _ => askT t
  | .ex c x _ => if c ∈ errs then wordR (m__law_word 0 0 c [.d (excD 0 0 c x)]) else .bad
  | .bad => .bad
theorem asked_2 {w : Str} {m : List T → Fo} {a b : D} (ht : tab w = some (2, [], m)) : m__law_asked [.d (fnD w), .d (.list [a, b])] = askR (m [.d a, .d b]) := by
  rw [u__law_asked]
  unfold b__law_asked
  have g1 : decide (((0 + 1 + 1 : Nat) : Int) < 3) = true := by decide
  have g2 : decide (((0 + 1 + 1 : Nat) : Int) = 1) = false := by decide
  have g3 : decide (((0 + 1 + 1 : Nat) : Int) < 5) = true := by decide
  have g4 : decide (((0 + 1 + 1 : Nat) : Int) = 3) = false := by decide
  cases h : m [.d a, .d b] with
  | ret t us => cases t <;> simp only [Dl.gd0, Dl.gdS, Dl.st0, Dl.stS, Dl.bd_ok, Dl.bd_ex, Dl.bd_bad, Dl.bd_if, Dl.bA_ok, Dl.bA_ex, Dl.bA_bad, Dl.bA_if, Dl.ou_ok, Dl.ou_ex, Dl.ou_bad, Dl.ou_if, Dl.sq_nx, Dl.sq_rt, Dl.sq_bk, Dl.sq_ct, Dl.sq_ex, Dl.sq_bad, Dl.sq_if, Dl.td_d, Dl.td_s, Dl.tds_0, Dl.tds_S, Dl.fz_d, Dl.fz_s, Dl.fzs_0, Dl.fzs_S, Dl.fz1_s, Dl.fz2_s, Dl.e_cst, Dl.e_var, Dl.var_d, Dl.var_own, Dl.var_bor, Dl.var_odk, Dl.var_odt, Dl.var_bdk, Dl.var_bdt, Dl.of_s, Dl.of_n, Dl.of_if, Dl.o1_s, Dl.o2_s, Dl.oA_s, Dl.e_op1, Dl.e_op2, Dl.ev_0, Dl.ev_S, Dl.evB_ok, Dl.evB_ex, Dl.evB_bad, Dl.evB_if, Dl.evC_ok, Dl.evC_ex, Dl.evC_bad, Dl.evC_if, Dl.e_opA, Dl.oTru_s, Dl.oTru2_s, Dl.e_tru, Dl.e_and, Dl.e_or, Dl.e_not, Dl.e_ifE, Dl.kAnd_b, Dl.kOr_b, Dl.kNot_b, Dl.kIfE_b, Dl.e_andV, Dl.e_orV, Dl.oAndV_b, Dl.oOrV_b, Dl.e_notV, Dl.e_chain, Dl.chn_1, Dl.chn_2, Dl.och0_s, Dl.och_b, Dl.e_tup, Dl.e_lst, Dl.oTup_s, Dl.oLst_s, Dl.e_frz, Dl.oFz_s, Dl.pt_0, Dl.pt_1, Dl.pOf_i, Dl.sl2_s, Dl.sl1_s, Dl.sl3_s, Dl.e_sl, Dl.e_ofN, Dl.oN_d, Dl.oN_own, Dl.oN_odk, Dl.oN_odt, Dl.oN_bor, Dl.oN_bdk, Dl.oN_bdt, Dl.oN_r, Dl.oN_n, Dl.oN_if, Dl.e_call, Dl.cN_ok, Dl.cN_ex, Dl.cN_bad, Dl.cN_if, Dl.e_callA, Dl.cA1_s, Dl.cA2_r, Dl.cA2_x, Dl.cA2_b, Dl.cA2_if, Dl.di_0, Dl.di_d, Dl.so_d, Dl.so_s, Dl.di_s, Dl.di1_0, Dl.di1_d, Dl.at_d, Dl.at_s, Dl.arg1_o, Dl.arg1_l, Dl.arg1_b, Dl.ats_0, Dl.ats_S, Dl.oC_s, Dl.pu_0, Dl.pu_S, Dl.pu1_s, Dl.pu1_n, Dl.e_callV, Dl.cV1_s, Dl.cV2_s, Dl.s_seq, Dl.s_nx, Dl.s_bk, Dl.s_ct, Dl.s_expr, Dl.kX_e, Dl.s_asg, Dl.as1_s, Dl.s_ret, Dl.kRt_d, Dl.kRt_s, Dl.rt1_o, Dl.s_retNone, Dl.s_if, Dl.kIf_b, Dl.s_asgN, Dl.s_retN, Dl.aN_s, Dl.aN_r, Dl.rN_s, Dl.rN_r, Dl.aN_b, Dl.rN_b, Dl.aN_if, Dl.rN_if, Dl.s_asgG, Dl.g1_s, Dl.g2_s, Dl.aT_n, Dl.aT_p, Dl.aT_l, Dl.s_asgU, Dl.aU_s, Dl.aTs_0, Dl.aTs_n, Dl.s_asgR, Dl.gR_s, Dl.s_raise, Dl.rs1_s, Dl.s_try, Dl.tr1_r, Dl.tr1_n, Dl.tr1_x, Dl.tr1_b, Dl.tr1_if, Dl.un_r, Dl.un_x, Dl.un_b, Dl.un_if, Dl.e_isX, Dl.ix1_s, Dl.e_atX, Dl.ax1_s, Dl.e_newA, Dl.nA_ok, Dl.nA1_s, Dl.nA2_s, Dl.e_newL, Dl.nL_ok, Dl.nL_ex, Dl.nL_b, Dl.nL_if, Dl.nL1_s, Dl.e_me, Dl.me1_s, Dl.me3_s, Dl.e_ch, Dl.ch0_o, Dl.ch1_s, Dl.ch2_s, Dl.ch3_s, Dl.ch3_if, Dl.s_setIx, Dl.si1_s, Dl.si2_o, Dl.si3_s, Dl.si4_s, Dl.s_aug, Dl.ag1_d, Dl.ag2_s, Dl.ag3_s, Dl.s_for, Dl.fS_s, Dl.fS_if, Dl.fL_0, Dl.fL1_s, Dl.fL2_n, Dl.fL2_c, Dl.fL2_b, Dl.fL2_r, Dl.fL2_if, Dl.e_ixE, Dl.iE_l, Dl.iE_t, Dl.iE_s, Dl.iE2_b, Dl.e_ixR1, Dl.e_ixR2, Dl.kWh_t, Dl.kWh_f, Dl.wh1_n, Dl.wh1_c, Dl.wh1_b, Dl.wh1_r, Dl.e_backAt, Dl.bk1_b, Dl.bk_n, Dl.bk_b, Dl.bk_c, Dl.bk_r, Dl.bkO_s, Dl.bk_if, Dl.s_lock, Dl.lkS_o, Dl.lkS_d, Dl.lkS_b, Dl.bkN_s, Dl.bkN1_s, Dl.e_lockN, Dl.lkN_o, Dl.lkN_d, Dl.lkN_b, Dl.rst1_d, Dl.rst1_n, Dl.wp_0, Dl.wp_S, Dl.rd_0, Dl.rd_S, Dl.e_lcN, Dl.lcR1_s, Dl.lcR2_s, Dl.lc_0, Dl.lc1_s, Dl.lc2_b, Dl.lc3_s, Dl.lc4_s, Dl.ts_n, Dl.ts_s, Dl.fE_n, Dl.fE_r, Dl.fE_x, Dl.fE_b, Dl.fE_if, Dl.en_0, Dl.en_1, Dl.okT_d, Dl.okT_o, Dl.oRt_s, Dl.fE_of, Dl.kop1, Dl.kop2, Dl.kop2b, Dl.kopA, Dl.kTru, Dl.kFz, Dl.kAndV, Dl.kOrV, Dl.kch1, Dl.kch2, Dl.kTup, Dl.kLst, Dl.kSl, Dl.tdO, Dl.T.dat, Dl.fzO, Dl.kAs, Dl.kG, Dl.kU, Dl.kR, Dl.kRs, Dl.kMe, Dl.kMe2, Dl.kCh, Dl.kSi, Dl.kSi3, Dl.kAg, Dl.slO, Dl.uAt, Option.bind_some, Option.map_some, List.getElem?_cons_zero, List.getElem?_cons_succ, List.set_cons_zero, List.set_cons_succ, List.length_cons, List.length_nil, Bool.true_and, Bool.and_true, Bool.not_true, Bool.not_false, if_true, if_false, Bool.false_eq_true, decide_eq_true_eq, Nat.zero_add, Nat.reduceAdd, Nat.reduceLT, List.nil_append, List.cons_append, List.isEmpty_cons, List.isEmpty_nil, Dl.geq_i, Dl.it_l, Dl.gx_l, Dl.gx_t, Dl.at_0, Dl.at_1, Dl.at_2, Dl.at_3, Dl.at_4, Dl.at_5, Dl.at_6, Dl.at_7, Dl.at_8, Dl.at_9, Dl.tr_b, Dl.tr_i, Dl.tr_n, Dl.tr_l, Dl.tr_t, Dl.gadd_i, Dl.gsub_i, Dl.gneg_i, Dl.glt_i, Dl.gle_i, Dl.ggt_i, Dl.gge_i, Dl.gaddI_i, Dl.gne_i, Dl.glen_l, Dl.glen_t, Dl.gint_i, Dl.gmin2_i, Dl.gmax2_i, Dl.gmaxL_2, Dl.gminL_2, Dl.gabs_i, Dl.geq_s, Dl.gne_s, ht, g1, g2, g3, g4, h, askR, askT]
  | ex c x us =>
    by_cases hc : c ∈ errs
    · simp only [Dl.gd0, Dl.gdS, Dl.st0, Dl.stS, Dl.bd_ok, Dl.bd_ex, Dl.bd_bad, Dl.bd_if, Dl.bA_ok, Dl.bA_ex, Dl.bA_bad, Dl.bA_if, Dl.ou_ok, Dl.ou_ex, Dl.ou_bad, Dl.ou_if, Dl.sq_nx, Dl.sq_rt, Dl.sq_bk, Dl.sq_ct, Dl.sq_ex, Dl.sq_bad, Dl.sq_if, Dl.td_d, Dl.td_s, Dl.tds_0, Dl.tds_S, Dl.fz_d, Dl.fz_s, Dl.fzs_0, Dl.fzs_S, Dl.fz1_s, Dl.fz2_s, Dl.e_cst, Dl.e_var, Dl.var_d, Dl.var_own, Dl.var_bor, Dl.var_odk, Dl.var_odt, Dl.var_bdk, Dl.var_bdt, Dl.of_s, Dl.of_n, Dl.of_if, Dl.o1_s, Dl.o2_s, Dl.oA_s, Dl.e_op1, Dl.e_op2, Dl.ev_0, Dl.ev_S, Dl.evB_ok, Dl.evB_ex, Dl.evB_bad, Dl.evB_if, Dl.evC_ok, Dl.evC_ex, Dl.evC_bad, Dl.evC_if, Dl.e_opA, Dl.oTru_s, Dl.oTru2_s, Dl.e_tru, Dl.e_and, Dl.e_or, Dl.e_not, Dl.e_ifE, Dl.kAnd_b, Dl.kOr_b, Dl.kNot_b, Dl.kIfE_b, Dl.e_andV, Dl.e_orV, Dl.oAndV_b, Dl.oOrV_b, Dl.e_notV, Dl.e_chain, Dl.chn_1, Dl.chn_2, Dl.och0_s, Dl.och_b, Dl.e_tup, Dl.e_lst, Dl.oTup_s, Dl.oLst_s, Dl.e_frz, Dl.oFz_s, Dl.pt_0, Dl.pt_1, Dl.pOf_i, Dl.sl2_s, Dl.sl1_s, Dl.sl3_s, Dl.e_sl, Dl.e_ofN, Dl.oN_d, Dl.oN_own, Dl.oN_odk, Dl.oN_odt, Dl.oN_bor, Dl.oN_bdk, Dl.oN_bdt, Dl.oN_r, Dl.oN_n, Dl.oN_if, Dl.e_call, Dl.cN_ok, Dl.cN_ex, Dl.cN_bad, Dl.cN_if, Dl.e_callA, Dl.cA1_s, Dl.cA2_r, Dl.cA2_x, Dl.cA2_b, Dl.cA2_if, Dl.di_0, Dl.di_d, Dl.so_d, Dl.so_s, Dl.di_s, Dl.di1_0, Dl.di1_d, Dl.at_d, Dl.at_s, Dl.arg1_o, Dl.arg1_l, Dl.arg1_b, Dl.ats_0, Dl.ats_S, Dl.oC_s, Dl.pu_0, Dl.pu_S, Dl.pu1_s, Dl.pu1_n, Dl.e_callV, Dl.cV1_s, Dl.cV2_s, Dl.s_seq, Dl.s_nx, Dl.s_bk, Dl.s_ct, Dl.s_expr, Dl.kX_e, Dl.s_asg, Dl.as1_s, Dl.s_ret, Dl.kRt_d, Dl.kRt_s, Dl.rt1_o, Dl.s_retNone, Dl.s_if, Dl.kIf_b, Dl.s_asgN, Dl.s_retN, Dl.aN_s, Dl.aN_r, Dl.rN_s, Dl.rN_r, Dl.aN_b, Dl.rN_b, Dl.aN_if, Dl.rN_if, Dl.s_asgG, Dl.g1_s, Dl.g2_s, Dl.aT_n, Dl.aT_p, Dl.aT_l, Dl.s_asgU, Dl.aU_s, Dl.aTs_0, Dl.aTs_n, Dl.s_asgR, Dl.gR_s, Dl.s_raise, Dl.rs1_s, Dl.s_try, Dl.tr1_r, Dl.tr1_n, Dl.tr1_x, Dl.tr1_b, Dl.tr1_if, Dl.un_r, Dl.un_x, Dl.un_b, Dl.un_if, Dl.e_isX, Dl.ix1_s, Dl.e_atX, Dl.ax1_s, Dl.e_newA, Dl.nA_ok, Dl.nA1_s, Dl.nA2_s, Dl.e_newL, Dl.nL_ok, Dl.nL_ex, Dl.nL_b, Dl.nL_if, Dl.nL1_s, Dl.e_me, Dl.me1_s, Dl.me3_s, Dl.e_ch, Dl.ch0_o, Dl.ch1_s, Dl.ch2_s, Dl.ch3_s, Dl.ch3_if, Dl.s_setIx, Dl.si1_s, Dl.si2_o, Dl.si3_s, Dl.si4_s, Dl.s_aug, Dl.ag1_d, Dl.ag2_s, Dl.ag3_s, Dl.s_for, Dl.fS_s, Dl.fS_if, Dl.fL_0, Dl.fL1_s, Dl.fL2_n, Dl.fL2_c, Dl.fL2_b, Dl.fL2_r, Dl.fL2_if, Dl.e_ixE, Dl.iE_l, Dl.iE_t, Dl.iE_s, Dl.iE2_b, Dl.e_ixR1, Dl.e_ixR2, Dl.kWh_t, Dl.kWh_f, Dl.wh1_n, Dl.wh1_c, Dl.wh1_b, Dl.wh1_r, Dl.e_backAt, Dl.bk1_b, Dl.bk_n, Dl.bk_b, Dl.bk_c, Dl.bk_r, Dl.bkO_s, Dl.bk_if, Dl.s_lock, Dl.lkS_o, Dl.lkS_d, Dl.lkS_b, Dl.bkN_s, Dl.bkN1_s, Dl.e_lockN, Dl.lkN_o, Dl.lkN_d, Dl.lkN_b, Dl.rst1_d, Dl.rst1_n, Dl.wp_0, Dl.wp_S, Dl.rd_0, Dl.rd_S, Dl.e_lcN, Dl.lcR1_s, Dl.lcR2_s, Dl.lc_0, Dl.lc1_s, Dl.lc2_b, Dl.lc3_s, Dl.lc4_s, Dl.ts_n, Dl.ts_s, Dl.fE_n, Dl.fE_r, Dl.fE_x, Dl.fE_b, Dl.fE_if, Dl.en_0, Dl.en_1, Dl.okT_d, Dl.okT_o, Dl.oRt_s, Dl.fE_of, Dl.kop1, Dl.kop2, Dl.kop2b, Dl.kopA, Dl.kTru, Dl.kFz, Dl.kAndV, Dl.kOrV, Dl.kch1, Dl.kch2, Dl.kTup, Dl.kLst, Dl.kSl, Dl.tdO, Dl.T.dat, Dl.fzO, Dl.kAs, Dl.kG, Dl.kU, Dl.kR, Dl.kRs, Dl.kMe, Dl.kMe2, Dl.kCh, Dl.kSi, Dl.kSi3, Dl.kAg, Dl.slO, Dl.uAt, Option.bind_some, Option.map_some, List.getElem?_cons_zero, List.getElem?_cons_succ, List.set_cons_zero, List.set_cons_succ, List.length_cons, List.length_nil, Bool.true_and, Bool.and_true, Bool.not_true, Bool.not_false, if_true, if_false, Bool.false_eq_true, decide_eq_true_eq, Nat.zero_add, Nat.reduceAdd, Nat.reduceLT, List.nil_append, List.cons_append, List.isEmpty_cons, List.isEmpty_nil, Dl.geq_i, Dl.it_l, Dl.gx_l, Dl.gx_t, Dl.at_0, Dl.at_1, Dl.at_2, Dl.at_3, Dl.at_4, Dl.at_5, Dl.at_6, Dl.at_7, Dl.at_8, Dl.at_9, Dl.tr_b, Dl.tr_i, Dl.tr_n, Dl.tr_l, Dl.tr_t, Dl.gadd_i, Dl.gsub_i, Dl.gneg_i, Dl.glt_i, Dl.gle_i, Dl.ggt_i, Dl.gge_i, Dl.gaddI_i, Dl.gne_i, Dl.glen_l, Dl.glen_t, Dl.gint_i, Dl.gmin2_i, Dl.gmax2_i, Dl.gmaxL_2, Dl.gminL_2, Dl.gabs_i, Dl.geq_s, Dl.gne_s, ht, g1, g2, g3, g4, h, askR, hc]
      cases hw : m__law_word 0 0 c [T.d (excD 0 0 c x)] with
      | ret t us => simp only [Dl.gd0, Dl.gdS, Dl.st0, Dl.stS, Dl.bd_ok, Dl.bd_ex, Dl.bd_bad, Dl.bd_if, Dl.bA_ok, Dl.bA_ex, Dl.bA_bad, Dl.bA_if, Dl.ou_ok, Dl.ou_ex, Dl.ou_bad, Dl.ou_if, Dl.sq_nx, Dl.sq_rt, Dl.sq_bk, Dl.sq_ct, Dl.sq_ex, Dl.sq_bad, Dl.sq_if, Dl.td_d, Dl.td_s, Dl.tds_0, Dl.tds_S, Dl.fz_d, Dl.fz_s, Dl.fzs_0, Dl.fzs_S, Dl.fz1_s, Dl.fz2_s, Dl.e_cst, Dl.e_var, Dl.var_d, Dl.var_own, Dl.var_bor, Dl.var_odk, Dl.var_odt, Dl.var_bdk, Dl.var_bdt, Dl.of_s, Dl.of_n, Dl.of_if, Dl.o1_s, Dl.o2_s, Dl.oA_s, Dl.e_op1, Dl.e_op2, Dl.ev_0, Dl.ev_S, Dl.evB_ok, Dl.evB_ex, Dl.evB_bad, Dl.evB_if, Dl.evC_ok, Dl.evC_ex, Dl.evC_bad, Dl.evC_if, Dl.e_opA, Dl.oTru_s, Dl.oTru2_s, Dl.e_tru, Dl.e_and, Dl.e_or, Dl.e_not, Dl.e_ifE, Dl.kAnd_b, Dl.kOr_b, Dl.kNot_b, Dl.kIfE_b, Dl.e_andV, Dl.e_orV, Dl.oAndV_b, Dl.oOrV_b, Dl.e_notV, Dl.e_chain, Dl.chn_1, Dl.chn_2, Dl.och0_s, Dl.och_b, Dl.e_tup, Dl.e_lst, Dl.oTup_s, Dl.oLst_s, Dl.e_frz, Dl.oFz_s, Dl.pt_0, Dl.pt_1, Dl.pOf_i, Dl.sl2_s, Dl.sl1_s, Dl.sl3_s, Dl.e_sl, Dl.e_ofN, Dl.oN_d, Dl.oN_own, Dl.oN_odk, Dl.oN_odt, Dl.oN_bor, Dl.oN_bdk, Dl.oN_bdt, Dl.oN_r, Dl.oN_n, Dl.oN_if, Dl.e_call, Dl.cN_ok, Dl.cN_ex, Dl.cN_bad, Dl.cN_if, Dl.e_callA, Dl.cA1_s, Dl.cA2_r, Dl.cA2_x, Dl.cA2_b, Dl.cA2_if, Dl.di_0, Dl.di_d, Dl.so_d, Dl.so_s, Dl.di_s, Dl.di1_0, Dl.di1_d, Dl.at_d, Dl.at_s, Dl.arg1_o, Dl.arg1_l, Dl.arg1_b, Dl.ats_0, Dl.ats_S, Dl.oC_s, Dl.pu_0, Dl.pu_S, Dl.pu1_s, Dl.pu1_n, Dl.e_callV, Dl.cV1_s, Dl.cV2_s, Dl.s_seq, Dl.s_nx, Dl.s_bk, Dl.s_ct, Dl.s_expr, Dl.kX_e, Dl.s_asg, Dl.as1_s, Dl.s_ret, Dl.kRt_d, Dl.kRt_s, Dl.rt1_o, Dl.s_retNone, Dl.s_if, Dl.kIf_b, Dl.s_asgN, Dl.s_retN, Dl.aN_s, Dl.aN_r, Dl.rN_s, Dl.rN_r, Dl.aN_b, Dl.rN_b, Dl.aN_if, Dl.rN_if, Dl.s_asgG, Dl.g1_s, Dl.g2_s, Dl.aT_n, Dl.aT_p, Dl.aT_l, Dl.s_asgU, Dl.aU_s, Dl.aTs_0, Dl.aTs_n, Dl.s_asgR, Dl.gR_s, Dl.s_raise, Dl.rs1_s, Dl.s_try, Dl.tr1_r, Dl.tr1_n, Dl.tr1_x, Dl.tr1_b, Dl.tr1_if, Dl.un_r, Dl.un_x, Dl.un_b, Dl.un_if, Dl.e_isX, Dl.ix1_s, Dl.e_atX, Dl.ax1_s, Dl.e_newA, Dl.nA_ok, Dl.nA1_s, Dl.nA2_s, Dl.e_newL, Dl.nL_ok, Dl.nL_ex, Dl.nL_b, Dl.nL_if, Dl.nL1_s, Dl.e_me, Dl.me1_s, Dl.me3_s, Dl.e_ch, Dl.ch0_o, Dl.ch1_s, Dl.ch2_s, Dl.ch3_s, Dl.ch3_if, Dl.s_setIx, Dl.si1_s, Dl.si2_o, Dl.si3_s, Dl.si4_s, Dl.s_aug, Dl.ag1_d, Dl.ag2_s, Dl.ag3_s, Dl.s_for, Dl.fS_s, Dl.fS_if, Dl.fL_0, Dl.fL1_s, Dl.fL2_n, Dl.fL2_c, Dl.fL2_b, Dl.fL2_r, Dl.fL2_if, Dl.e_ixE, Dl.iE_l, Dl.iE_t, Dl.iE_s, Dl.iE2_b, Dl.e_ixR1, Dl.e_ixR2, Dl.kWh_t, Dl.kWh_f, Dl.wh1_n, Dl.wh1_c, Dl.wh1_b, Dl.wh1_r, Dl.e_backAt, Dl.bk1_b, Dl.bk_n, Dl.bk_b, Dl.bk_c, Dl.bk_r, Dl.bkO_s, Dl.bk_if, Dl.s_lock, Dl.lkS_o, Dl.lkS_d, Dl.lkS_b, Dl.bkN_s, Dl.bkN1_s, Dl.e_lockN, Dl.lkN_o, Dl.lkN_d, Dl.lkN_b, Dl.rst1_d, Dl.rst1_n, Dl.wp_0, Dl.wp_S, Dl.rd_0, Dl.rd_S, Dl.e_lcN, Dl.lcR1_s, Dl.lcR2_s, Dl.lc_0, Dl.lc1_s, Dl.lc2_b, Dl.lc3_s, Dl.lc4_s, Dl.ts_n, Dl.ts_s, Dl.fE_n, Dl.fE_r, Dl.fE_x, Dl.fE_b, Dl.fE_if, Dl.en_0, Dl.en_1, Dl.okT_d, Dl.okT_o, Dl.oRt_s, Dl.fE_of, Dl.kop1, Dl.kop2, Dl.kop2b, Dl.kopA, Dl.kTru, Dl.kFz, Dl.kAndV, Dl.kOrV, Dl.kch1, Dl.kch2, Dl.kTup, Dl.kLst, Dl.kSl, Dl.tdO, Dl.T.dat, Dl.fzO, Dl.kAs, Dl.kG, Dl.kU, Dl.kR, Dl.kRs, Dl.kMe, Dl.kMe2, Dl.kCh, Dl.kSi, Dl.kSi3, Dl.kAg, Dl.slO, Dl.uAt, Option.bind_some, Option.map_some, List.getElem?_cons_zero, List.getElem?_cons_succ, List.set_cons_zero, List.set_cons_succ, List.length_cons, List.length_nil, Bool.true_and, Bool.and_true, Bool.not_true, Bool.not_false, if_true, if_false, Bool.false_eq_true, decide_eq_true_eq, Nat.zero_add, Nat.reduceAdd, Nat.reduceLT, List.nil_append, List.cons_append, List.isEmpty_cons, List.isEmpty_nil, Dl.geq_i, Dl.it_l, Dl.gx_l, Dl.gx_t, Dl.at_0, Dl.at_1, Dl.at_2, Dl.at_3, Dl.at_4, Dl.at_5, Dl.at_6, Dl.at_7, Dl.at_8, Dl.at_9, Dl.tr_b, Dl.tr_i, Dl.tr_n, Dl.tr_l, Dl.tr_t, Dl.gadd_i, Dl.gsub_i, Dl.gneg_i, Dl.glt_i, Dl.gle_i, Dl.ggt_i, Dl.gge_i, Dl.gaddI_i, Dl.gne_i, Dl.glen_l, Dl.glen_t, Dl.gint_i, Dl.gmin2_i, Dl.gmax2_i, Dl.gmaxL_2, Dl.gminL_2, Dl.gabs_i, Dl.geq_s, Dl.gne_s, wordR]
      | ex c2 x2 us => simp only [Dl.gd0, Dl.gdS, Dl.st0, Dl.stS, Dl.bd_ok, Dl.bd_ex, Dl.bd_bad, Dl.bd_if, Dl.bA_ok, Dl.bA_ex, Dl.bA_bad, Dl.bA_if, Dl.ou_ok, Dl.ou_ex, Dl.ou_bad, Dl.ou_if, Dl.sq_nx, Dl.sq_rt, Dl.sq_bk, Dl.sq_ct, Dl.sq_ex, Dl.sq_bad, Dl.sq_if, Dl.td_d, Dl.td_s, Dl.tds_0, Dl.tds_S, Dl.fz_d, Dl.fz_s, Dl.fzs_0, Dl.fzs_S, Dl.fz1_s, Dl.fz2_s, Dl.e_cst, Dl.e_var, Dl.var_d, Dl.var_own, Dl.var_bor, Dl.var_odk, Dl.var_odt, Dl.var_bdk, Dl.var_bdt, Dl.of_s, Dl.of_n, Dl.of_if, Dl.o1_s, Dl.o2_s, Dl.oA_s, Dl.e_op1, Dl.e_op2, Dl.ev_0, Dl.ev_S, Dl.evB_ok, Dl.evB_ex, Dl.evB_bad, Dl.evB_if, Dl.evC_ok, Dl.evC_ex, Dl.evC_bad, Dl.evC_if, Dl.e_opA, Dl.oTru_s, Dl.oTru2_s, Dl.e_tru, Dl.e_and, Dl.e_or, Dl.e_not, Dl.e_ifE, Dl.kAnd_b, Dl.kOr_b, Dl.kNot_b, Dl.kIfE_b, Dl.e_andV, Dl.e_orV, Dl.oAndV_b, Dl.oOrV_b, Dl.e_notV, Dl.e_chain, Dl.chn_1, Dl.chn_2, Dl.och0_s, Dl.och_b, Dl.e_tup, Dl.e_lst, Dl.oTup_s, Dl.oLst_s, Dl.e_frz, Dl.oFz_s, Dl.pt_0, Dl.pt_1, Dl.pOf_i, Dl.sl2_s, Dl.sl1_s, Dl.sl3_s, Dl.e_sl, Dl.e_ofN, Dl.oN_d, Dl.oN_own, Dl.oN_odk, Dl.oN_odt, Dl.oN_bor, Dl.oN_bdk, Dl.oN_bdt, Dl.oN_r, Dl.oN_n, Dl.oN_if, Dl.e_call, Dl.cN_ok, Dl.cN_ex, Dl.cN_bad, Dl.cN_if, Dl.e_callA, Dl.cA1_s, Dl.cA2_r, Dl.cA2_x, Dl.cA2_b, Dl.cA2_if, Dl.di_0, Dl.di_d, Dl.so_d, Dl.so_s, Dl.di_s, Dl.di1_0, Dl.di1_d, Dl.at_d, Dl.at_s, Dl.arg1_o, Dl.arg1_l, Dl.arg1_b, Dl.ats_0, Dl.ats_S, Dl.oC_s, Dl.pu_0, Dl.pu_S, Dl.pu1_s, Dl.pu1_n, Dl.e_callV, Dl.cV1_s, Dl.cV2_s, Dl.s_seq, Dl.s_nx, Dl.s_bk, Dl.s_ct, Dl.s_expr, Dl.kX_e, Dl.s_asg, Dl.as1_s, Dl.s_ret, Dl.kRt_d, Dl.kRt_s, Dl.rt1_o, Dl.s_retNone, Dl.s_if, Dl.kIf_b, Dl.s_asgN, Dl.s_retN, Dl.aN_s, Dl.aN_r, Dl.rN_s, Dl.rN_r, Dl.aN_b, Dl.rN_b, Dl.aN_if, Dl.rN_if, Dl.s_asgG, Dl.g1_s, Dl.g2_s, Dl.aT_n, Dl.aT_p, Dl.aT_l, Dl.s_asgU, Dl.aU_s, Dl.aTs_0, Dl.aTs_n, Dl.s_asgR, Dl.gR_s, Dl.s_raise, Dl.rs1_s, Dl.s_try, Dl.tr1_r, Dl.tr1_n, Dl.tr1_x, Dl.tr1_b, Dl.tr1_if, Dl.un_r, Dl.un_x, Dl.un_b, Dl.un_if, Dl.e_isX, Dl.ix1_s, Dl.e_atX, Dl.ax1_s, Dl.e_newA, Dl.nA_ok, Dl.nA1_s, Dl.nA2_s, Dl.e_newL, Dl.nL_ok, Dl.nL_ex, Dl.nL_b, Dl.nL_if, Dl.nL1_s, Dl.e_me, Dl.me1_s, Dl.me3_s, Dl.e_ch, Dl.ch0_o, Dl.ch1_s, Dl.ch2_s, Dl.ch3_s, Dl.ch3_if, Dl.s_setIx, Dl.si1_s, Dl.si2_o, Dl.si3_s, Dl.si4_s, Dl.s_aug, Dl.ag1_d, Dl.ag2_s, Dl.ag3_s, Dl.s_for, Dl.fS_s, Dl.fS_if, Dl.fL_0, Dl.fL1_s, Dl.fL2_n, Dl.fL2_c, Dl.fL2_b, Dl.fL2_r, Dl.fL2_if, Dl.e_ixE, Dl.iE_l, Dl.iE_t, Dl.iE_s, Dl.iE2_b, Dl.e_ixR1, Dl.e_ixR2, Dl.kWh_t, Dl.kWh_f, Dl.wh1_n, Dl.wh1_c, Dl.wh1_b, Dl.wh1_r, Dl.e_backAt, Dl.bk1_b, Dl.bk_n, Dl.bk_b, Dl.bk_c, Dl.bk_r, Dl.bkO_s, Dl.bk_if, Dl.s_lock, Dl.lkS_o, Dl.lkS_d, Dl.lkS_b, Dl.bkN_s, Dl.bkN1_s, Dl.e_lockN, Dl.lkN_o, Dl.lkN_d, Dl.lkN_b, Dl.rst1_d, Dl.rst1_n, Dl.wp_0, Dl.wp_S, Dl.rd_0, Dl.rd_S, Dl.e_lcN, Dl.lcR1_s, Dl.lcR2_s, Dl.lc_0, Dl.lc1_s, Dl.lc2_b, Dl.lc3_s, Dl.lc4_s, Dl.ts_n, Dl.ts_s, Dl.fE_n, Dl.fE_r, Dl.fE_x, Dl.fE_b, Dl.fE_if, Dl.en_0, Dl.en_1, Dl.okT_d, Dl.okT_o, Dl.oRt_s, Dl.fE_of, Dl.kop1, Dl.kop2, Dl.kop2b, Dl.kopA, Dl.kTru, Dl.kFz, Dl.kAndV, Dl.kOrV, Dl.kch1, Dl.kch2, Dl.kTup, Dl.kLst, Dl.kSl, Dl.tdO, Dl.T.dat, Dl.fzO, Dl.kAs, Dl.kG, Dl.kU, Dl.kR, Dl.kRs, Dl.kMe, Dl.kMe2, Dl.kCh, Dl.kSi, Dl.kSi3, Dl.kAg, Dl.slO, Dl.uAt, Option.bind_some, Option.map_some, List.getElem?_cons_zero, List.getElem?_cons_succ, List.set_cons_zero, List.set_cons_succ, List.length_cons, List.length_nil, Bool.true_and, Bool.and_true, Bool.not_true, Bool.not_false, if_true, if_false, Bool.false_eq_true, decide_eq_true_eq, Nat.zero_add, Nat.reduceAdd, Nat.reduceLT, List.nil_append, List.cons_append, List.isEmpty_cons, List.isEmpty_nil, Dl.geq_i, Dl.it_l, Dl.gx_l, Dl.gx_t, Dl.at_0, Dl.at_1, Dl.at_2, Dl.at_3, Dl.at_4, Dl.at_5, Dl.at_6, Dl.at_7, Dl.at_8, Dl.at_9, Dl.tr_b, Dl.tr_i, Dl.tr_n, Dl.tr_l, Dl.tr_t, Dl.gadd_i, Dl.gsub_i, Dl.gneg_i, Dl.glt_i, Dl.gle_i, Dl.ggt_i, Dl.gge_i, Dl.gaddI_i, Dl.gne_i, Dl.glen_l, Dl.glen_t, Dl.gint_i, Dl.gmin2_i, Dl.gmax2_i, Dl.gmaxL_2, Dl.gminL_2, Dl.gabs_i, Dl.geq_s, Dl.gne_s, wordR]
      | bad => simp only [Dl.gd0, Dl.gdS, Dl.st0, Dl.stS, Dl.bd_ok, Dl.bd_ex, Dl.bd_bad, Dl.bd_if, Dl.bA_ok, Dl.bA_ex, Dl.bA_bad, Dl.bA_if, Dl.ou_ok, Dl.ou_ex, Dl.ou_bad, Dl.ou_if, Dl.sq_nx, Dl.sq_rt, Dl.sq_bk, Dl.sq_ct, Dl.sq_ex, Dl.sq_bad, Dl.sq_if, Dl.td_d, Dl.td_s, Dl.tds_0, Dl.tds_S, Dl.fz_d, Dl.fz_s, Dl.fzs_0, Dl.fzs_S, Dl.fz1_s, Dl.fz2_s, Dl.e_cst, Dl.e_var, Dl.var_d, Dl.var_own, Dl.var_bor, Dl.var_odk, Dl.var_odt, Dl.var_bdk, Dl.var_bdt, Dl.of_s, Dl.of_n, Dl.of_if, Dl.o1_s, Dl.o2_s, Dl.oA_s, Dl.e_op1, Dl.e_op2, Dl.ev_0, Dl.ev_S, Dl.evB_ok, Dl.evB_ex, Dl.evB_bad, Dl.evB_if, Dl.evC_ok, Dl.evC_ex, Dl.evC_bad, Dl.evC_if, Dl.e_opA, Dl.oTru_s, Dl.oTru2_s, Dl.e_tru, Dl.e_and, Dl.e_or, Dl.e_not, Dl.e_ifE, Dl.kAnd_b, Dl.kOr_b, Dl.kNot_b, Dl.kIfE_b, Dl.e_andV, Dl.e_orV, Dl.oAndV_b, Dl.oOrV_b, Dl.e_notV, Dl.e_chain, Dl.chn_1, Dl.chn_2, Dl.och0_s, Dl.och_b, Dl.e_tup, Dl.e_lst, Dl.oTup_s, Dl.oLst_s, Dl.e_frz, Dl.oFz_s, Dl.pt_0, Dl.pt_1, Dl.pOf_i, Dl.sl2_s, Dl.sl1_s, Dl.sl3_s, Dl.e_sl, Dl.e_ofN, Dl.oN_d, Dl.oN_own, Dl.oN_odk, Dl.oN_odt, Dl.oN_bor, Dl.oN_bdk, Dl.oN_bdt, Dl.oN_r, Dl.oN_n, Dl.oN_if, Dl.e_call, Dl.cN_ok, Dl.cN_ex, Dl.cN_bad, Dl.cN_if, Dl.e_callA, Dl.cA1_s, Dl.cA2_r, Dl.cA2_x, Dl.cA2_b, Dl.cA2_if, Dl.di_0, Dl.di_d, Dl.so_d, Dl.so_s, Dl.di_s, Dl.di1_0, Dl.di1_d, Dl.at_d, Dl.at_s, Dl.arg1_o, Dl.arg1_l, Dl.arg1_b, Dl.ats_0, Dl.ats_S, Dl.oC_s, Dl.pu_0, Dl.pu_S, Dl.pu1_s, Dl.pu1_n, Dl.e_callV, Dl.cV1_s, Dl.cV2_s, Dl.s_seq, Dl.s_nx, Dl.s_bk, Dl.s_ct, Dl.s_expr, Dl.kX_e, Dl.s_asg, Dl.as1_s, Dl.s_ret, Dl.kRt_d, Dl.kRt_s, Dl.rt1_o, Dl.s_retNone, Dl.s_if, Dl.kIf_b, Dl.s_asgN, Dl.s_retN, Dl.aN_s, Dl.aN_r, Dl.rN_s, Dl.rN_r, Dl.aN_b, Dl.rN_b, Dl.aN_if, Dl.rN_if, Dl.s_asgG, Dl.g1_s, Dl.g2_s, Dl.aT_n, Dl.aT_p, Dl.aT_l, Dl.s_asgU, Dl.aU_s, Dl.aTs_0, Dl.aTs_n, Dl.s_asgR, Dl.gR_s, Dl.s_raise, Dl.rs1_s, Dl.s_try, Dl.tr1_r, Dl.tr1_n, Dl.tr1_x, Dl.tr1_b, Dl.tr1_if, Dl.un_r, Dl.un_x, Dl.un_b, Dl.un_if, Dl.e_isX, Dl.ix1_s, Dl.e_atX, Dl.ax1_s, Dl.e_newA, Dl.nA_ok, Dl.nA1_s, Dl.nA2_s, Dl.e_newL, Dl.nL_ok, Dl.nL_ex, Dl.nL_b, Dl.nL_if, Dl.nL1_s, Dl.e_me, Dl.me1_s, Dl.me3_s, Dl.e_ch, Dl.ch0_o, Dl.ch1_s, Dl.ch2_s, Dl.ch3_s, Dl.ch3_if, Dl.s_setIx, Dl.si1_s, Dl.si2_o, Dl.si3_s, Dl.si4_s, Dl.s_aug, Dl.ag1_d, Dl.ag2_s, Dl.ag3_s, Dl.s_for, Dl.fS_s, Dl.fS_if, Dl.fL_0, Dl.fL1_s, Dl.fL2_n, Dl.fL2_c, Dl.fL2_b, Dl.fL2_r, Dl.fL2_if, Dl.e_ixE, Dl.iE_l, Dl.iE_t, Dl.iE_s, Dl.iE2_b, Dl.e_ixR1, Dl.e_ixR2, Dl.kWh_t, Dl.kWh_f, Dl.wh1_n, Dl.wh1_c, Dl.wh1_b, Dl.wh1_r, Dl.e_backAt, Dl.bk1_b, Dl.bk_n, Dl.bk_b, Dl.bk_c, Dl.bk_r, Dl.bkO_s, Dl.bk_if, Dl.s_lock, Dl.lkS_o, Dl.lkS_d, Dl.lkS_b, Dl.bkN_s, Dl.bkN1_s, Dl.e_lockN, Dl.lkN_o, Dl.lkN_d, Dl.lkN_b, Dl.rst1_d, Dl.rst1_n, Dl.wp_0, Dl.wp_S, Dl.rd_0, Dl.rd_S, Dl.e_lcN, Dl.lcR1_s, Dl.lcR2_s, Dl.lc_0, Dl.lc1_s, Dl.lc2_b, Dl.lc3_s, Dl.lc4_s, Dl.ts_n, Dl.ts_s, Dl.fE_n, Dl.fE_r, Dl.fE_x, Dl.fE_b, Dl.fE_if, Dl.en_0, Dl.en_1, Dl.okT_d, Dl.okT_o, Dl.oRt_s, Dl.fE_of, Dl.kop1, Dl.kop2, Dl.kop2b, Dl.kopA, Dl.kTru, Dl.kFz, Dl.kAndV, Dl.kOrV, Dl.kch1, Dl.kch2, Dl.kTup, Dl.kLst, Dl.kSl, Dl.tdO, Dl.T.dat, Dl.fzO, Dl.kAs, Dl.kG, Dl.kU, Dl.kR, Dl.kRs, Dl.kMe, Dl.kMe2, Dl.kCh, Dl.kSi, Dl.kSi3, Dl.kAg, Dl.slO, Dl.uAt, Option.bind_some, Option.map_some, List.getElem?_cons_zero, List.getElem?_cons_succ, List.set_cons_zero, List.set_cons_succ, List.length_cons, List.length_nil, Bool.true_and, Bool.and_true, Bool.not_true, Bool.not_false, if_true, if_false, Bool.false_eq_true, decide_eq_true_eq, Nat.zero_add, Nat.reduceAdd, Nat.reduceLT, List.nil_append, List.cons_append, List.isEmpty_cons, List.isEmpty_nil, Dl.geq_i, Dl.it_l, Dl.gx_l, Dl.gx_t, Dl.at_0, Dl.at_1, Dl.at_2, Dl.at_3, Dl.at_4, Dl.at_5, Dl.at_6, Dl.at_7, Dl.at_8, Dl.at_9, Dl.tr_b, Dl.tr_i, Dl.tr_n, Dl.tr_l, Dl.tr_t, Dl.gadd_i, Dl.gsub_i, Dl.gneg_i, Dl.glt_i, Dl.gle_i, Dl.ggt_i, Dl.gge_i, Dl.gaddI_i, Dl.gne_i, Dl.glen_l, Dl.glen_t, Dl.gint_i, Dl.gmin2_i, Dl.gmax2_i, Dl.gmaxL_2, Dl.gminL_2, Dl.gabs_i, Dl.geq_s, Dl.gne_s, wordR]
    · simp only [Dl.gd0, Dl.gdS, Dl.st0, Dl.stS, Dl.bd_ok, Dl.bd_ex, Dl.bd_bad, Dl.bd_if, Dl.bA_ok, Dl.bA_ex, Dl.bA_bad, Dl.bA_if, Dl.ou_ok, Dl.ou_ex, Dl.ou_bad, Dl.ou_if, Dl.sq_nx, Dl.sq_rt, Dl.sq_bk, Dl.sq_ct, Dl.sq_ex, Dl.sq_bad, Dl.sq_if, Dl.td_d, Dl.td_s, Dl.tds_0, Dl.tds_S, Dl.fz_d, Dl.fz_s, Dl.fzs_0, Dl.fzs_S, Dl.fz1_s, Dl.fz2_s, Dl.e_cst, Dl.e_var, Dl.var_d, Dl.var_own, Dl.var_bor, Dl.var_odk, Dl.var_odt, Dl.var_bdk, Dl.var_bdt, Dl.of_s, Dl.of_n, Dl.of_if, Dl.o1_s, Dl.o2_s, Dl.oA_s, Dl.e_op1, Dl.e_op2, Dl.ev_0, Dl.ev_S, Dl.evB_ok, Dl.evB_ex, Dl.evB_bad, Dl.evB_if, Dl.evC_ok, Dl.evC_ex, Dl.evC_bad, Dl.evC_if, Dl.e_opA, Dl.oTru_s, Dl.oTru2_s, Dl.e_tru, Dl.e_and, Dl.e_or, Dl.e_not, Dl.e_ifE, Dl.kAnd_b, Dl.kOr_b, Dl.kNot_b, Dl.kIfE_b, Dl.e_andV, Dl.e_orV, Dl.oAndV_b, Dl.oOrV_b, Dl.e_notV, Dl.e_chain, Dl.chn_1, Dl.chn_2, Dl.och0_s, Dl.och_b, Dl.e_tup, Dl.e_lst, Dl.oTup_s, Dl.oLst_s, Dl.e_frz, Dl.oFz_s, Dl.pt_0, Dl.pt_1, Dl.pOf_i, Dl.sl2_s, Dl.sl1_s, Dl.sl3_s, Dl.e_sl, Dl.e_ofN, Dl.oN_d, Dl.oN_own, Dl.oN_odk, Dl.oN_odt, Dl.oN_bor, Dl.oN_bdk, Dl.oN_bdt, Dl.oN_r, Dl.oN_n, Dl.oN_if, Dl.e_call, Dl.cN_ok, Dl.cN_ex, Dl.cN_bad, Dl.cN_if, Dl.e_callA, Dl.cA1_s, Dl.cA2_r, Dl.cA2_x, Dl.cA2_b, Dl.cA2_if, Dl.di_0, Dl.di_d, Dl.so_d, Dl.so_s, Dl.di_s, Dl.di1_0, Dl.di1_d, Dl.at_d, Dl.at_s, Dl.arg1_o, Dl.arg1_l, Dl.arg1_b, Dl.ats_0, Dl.ats_S, Dl.oC_s, Dl.pu_0, Dl.pu_S, Dl.pu1_s, Dl.pu1_n, Dl.e_callV, Dl.cV1_s, Dl.cV2_s, Dl.s_seq, Dl.s_nx, Dl.s_bk, Dl.s_ct, Dl.s_expr, Dl.kX_e, Dl.s_asg, Dl.as1_s, Dl.s_ret, Dl.kRt_d, Dl.kRt_s, Dl.rt1_o, Dl.s_retNone, Dl.s_if, Dl.kIf_b, Dl.s_asgN, Dl.s_retN, Dl.aN_s, Dl.aN_r, Dl.rN_s, Dl.rN_r, Dl.aN_b, Dl.rN_b, Dl.aN_if, Dl.rN_if, Dl.s_asgG, Dl.g1_s, Dl.g2_s, Dl.aT_n, Dl.aT_p, Dl.aT_l, Dl.s_asgU, Dl.aU_s, Dl.aTs_0, Dl.aTs_n, Dl.s_asgR, Dl.gR_s, Dl.s_raise, Dl.rs1_s, Dl.s_try, Dl.tr1_r, Dl.tr1_n, Dl.tr1_x, Dl.tr1_b, Dl.tr1_if, Dl.un_r, Dl.un_x, Dl.un_b, Dl.un_if, Dl.e_isX, Dl.ix1_s, Dl.e_atX, Dl.ax1_s, Dl.e_newA, Dl.nA_ok, Dl.nA1_s, Dl.nA2_s, Dl.e_newL, Dl.nL_ok, Dl.nL_ex, Dl.nL_b, Dl.nL_if, Dl.nL1_s, Dl.e_me, Dl.me1_s, Dl.me3_s, Dl.e_ch, Dl.ch0_o, Dl.ch1_s, Dl.ch2_s, Dl.ch3_s, Dl.ch3_if, Dl.s_setIx, Dl.si1_s, Dl.si2_o, Dl.si3_s, Dl.si4_s, Dl.s_aug, Dl.ag1_d, Dl.ag2_s, Dl.ag3_s, Dl.s_for, Dl.fS_s, Dl.fS_if, Dl.fL_0, Dl.fL1_s, Dl.fL2_n, Dl.fL2_c, Dl.fL2_b, Dl.fL2_r, Dl.fL2_if, Dl.e_ixE, Dl.iE_l, Dl.iE_t, Dl.iE_s, Dl.iE2_b, Dl.e_ixR1, Dl.e_ixR2, Dl.kWh_t, Dl.kWh_f, Dl.wh1_n, Dl.wh1_c, Dl.wh1_b, Dl.wh1_r, Dl.e_backAt, Dl.bk1_b, Dl.bk_n, Dl.bk_b, Dl.bk_c, Dl.bk_r, Dl.bkO_s, Dl.bk_if, Dl.s_lock, Dl.lkS_o, Dl.lkS_d, Dl.lkS_b, Dl.bkN_s, Dl.bkN1_s, Dl.e_lockN, Dl.lkN_o, Dl.lkN_d, Dl.lkN_b, Dl.rst1_d, Dl.rst1_n, Dl.wp_0, Dl.wp_S, Dl.rd_0, Dl.rd_S, Dl.e_lcN, Dl.lcR1_s, Dl.lcR2_s, Dl.lc_0, Dl.lc1_s, Dl.lc2_b, Dl.lc3_s, Dl.lc4_s, Dl.ts_n, Dl.ts_s, Dl.fE_n, Dl.fE_r, Dl.fE_x, Dl.fE_b, Dl.fE_if, Dl.en_0, Dl.en_1, Dl.okT_d, Dl.okT_o, Dl.oRt_s, Dl.fE_of, Dl.kop1, Dl.kop2, Dl.kop2b, Dl.kopA, Dl.kTru, Dl.kFz, Dl.kAndV, Dl.kOrV, Dl.kch1, Dl.kch2, Dl.kTup, Dl.kLst, Dl.kSl, Dl.tdO, Dl.T.dat, Dl.fzO, Dl.kAs, Dl.kG, Dl.kU, Dl.kR, Dl.kRs, Dl.kMe, Dl.kMe2, Dl.kCh, Dl.kSi, Dl.kSi3, Dl.kAg, Dl.slO, Dl.uAt, Option.bind_some, Option.map_some, List.getElem?_cons_zero, List.getElem?_cons_succ, List.set_cons_zero, List.set_cons_succ, List.length_cons, List.length_nil, Bool.true_and, Bool.and_true, Bool.not_true, Bool.not_false, if_true, if_false, Bool.false_eq_true, decide_eq_true_eq, Nat.zero_add, Nat.reduceAdd, Nat.reduceLT, List.nil_append, List.cons_append, List.isEmpty_cons, List.isEmpty_nil, Dl.geq_i, Dl.it_l, Dl.gx_l, Dl.gx_t, Dl.at_0, Dl.at_1, Dl.at_2, Dl.at_3, Dl.at_4, Dl.at_5, Dl.at_6, Dl.at_7, Dl.at_8, Dl.at_9, Dl.tr_b, Dl.tr_i, Dl.tr_n, Dl.tr_l, Dl.tr_t, Dl.gadd_i, Dl.gsub_i, Dl.gneg_i, Dl.glt_i, Dl.gle_i, Dl.ggt_i, Dl.gge_i, Dl.gaddI_i, Dl.gne_i, Dl.glen_l, Dl.glen_t, Dl.gint_i, Dl.gmin2_i, Dl.gmax2_i, Dl.gmaxL_2, Dl.gminL_2, Dl.gabs_i, Dl.geq_s, Dl.gne_s, ht, g1, g2, g3, g4, h, askR, hc]
  | bad => simp only [Dl.gd0, Dl.gdS, Dl.st0, Dl.stS, Dl.bd_ok, Dl.bd_ex, Dl.bd_bad, Dl.bd_if, Dl.bA_ok, Dl.bA_ex, Dl.bA_bad, Dl.bA_if, Dl.ou_ok, Dl.ou_ex, Dl.ou_bad, Dl.ou_if, Dl.sq_nx, Dl.sq_rt, Dl.sq_bk, Dl.sq_ct, Dl.sq_ex, Dl.sq_bad, Dl.sq_if, Dl.td_d, Dl.td_s, Dl.tds_0, Dl.tds_S, Dl.fz_d, Dl.fz_s, Dl.fzs_0, Dl.fzs_S, Dl.fz1_s, Dl.fz2_s, Dl.e_cst, Dl.e_var, Dl.var_d, Dl.var_own, Dl.var_bor, Dl.var_odk, Dl.var_odt, Dl.var_bdk, Dl.var_bdt, Dl.of_s, Dl.of_n, Dl.of_if, Dl.o1_s, Dl.o2_s, Dl.oA_s, Dl.e_op1, Dl.e_op2, Dl.ev_0, Dl.ev_S, Dl.evB_ok, Dl.evB_ex, Dl.evB_bad, Dl.evB_if, Dl.evC_ok, Dl.evC_ex, Dl.evC_bad, Dl.evC_if, Dl.e_opA, Dl.oTru_s, Dl.oTru2_s, Dl.e_tru, Dl.e_and, Dl.e_or, Dl.e_not, Dl.e_ifE, Dl.kAnd_b, Dl.kOr_b, Dl.kNot_b, Dl.kIfE_b, Dl.e_andV, Dl.e_orV, Dl.oAndV_b, Dl.oOrV_b, Dl.e_notV, Dl.e_chain, Dl.chn_1, Dl.chn_2, Dl.och0_s, Dl.och_b, Dl.e_tup, Dl.e_lst, Dl.oTup_s, Dl.oLst_s, Dl.e_frz, Dl.oFz_s, Dl.pt_0, Dl.pt_1, Dl.pOf_i, Dl.sl2_s, Dl.sl1_s, Dl.sl3_s, Dl.e_sl, Dl.e_ofN, Dl.oN_d, Dl.oN_own, Dl.oN_odk, Dl.oN_odt, Dl.oN_bor, Dl.oN_bdk, Dl.oN_bdt, Dl.oN_r, Dl.oN_n, Dl.oN_if, Dl.e_call, Dl.cN_ok, Dl.cN_ex, Dl.cN_bad, Dl.cN_if, Dl.e_callA, Dl.cA1_s, Dl.cA2_r, Dl.cA2_x, Dl.cA2_b, Dl.cA2_if, Dl.di_0, Dl.di_d, Dl.so_d, Dl.so_s, Dl.di_s, Dl.di1_0, Dl.di1_d, Dl.at_d, Dl.at_s, Dl.arg1_o, Dl.arg1_l, Dl.arg1_b, Dl.ats_0, Dl.ats_S, Dl.oC_s, Dl.pu_0, Dl.pu_S, Dl.pu1_s, Dl.pu1_n, Dl.e_callV, Dl.cV1_s, Dl.cV2_s, Dl.s_seq, Dl.s_nx, Dl.s_bk, Dl.s_ct, Dl.s_expr, Dl.kX_e, Dl.s_asg, Dl.as1_s, Dl.s_ret, Dl.kRt_d, Dl.kRt_s, Dl.rt1_o, Dl.s_retNone, Dl.s_if, Dl.kIf_b, Dl.s_asgN, Dl.s_retN, Dl.aN_s, Dl.aN_r, Dl.rN_s, Dl.rN_r, Dl.aN_b, Dl.rN_b, Dl.aN_if, Dl.rN_if, Dl.s_asgG, Dl.g1_s, Dl.g2_s, Dl.aT_n, Dl.aT_p, Dl.aT_l, Dl.s_asgU, Dl.aU_s, Dl.aTs_0, Dl.aTs_n, Dl.s_asgR, Dl.gR_s, Dl.s_raise, Dl.rs1_s, Dl.s_try, Dl.tr1_r, Dl.tr1_n, Dl.tr1_x, Dl.tr1_b, Dl.tr1_if, Dl.un_r, Dl.un_x, Dl.un_b, Dl.un_if, Dl.e_isX, Dl.ix1_s, Dl.e_atX, Dl.ax1_s, Dl.e_newA, Dl.nA_ok, Dl.nA1_s, Dl.nA2_s, Dl.e_newL, Dl.nL_ok, Dl.nL_ex, Dl.nL_b, Dl.nL_if, Dl.nL1_s, Dl.e_me, Dl.me1_s, Dl.me3_s, Dl.e_ch, Dl.ch0_o, Dl.ch1_s, Dl.ch2_s, Dl.ch3_s, Dl.ch3_if, Dl.s_setIx, Dl.si1_s, Dl.si2_o, Dl.si3_s, Dl.si4_s, Dl.s_aug, Dl.ag1_d, Dl.ag2_s, Dl.ag3_s, Dl.s_for, Dl.fS_s, Dl.fS_if, Dl.fL_0, Dl.fL1_s, Dl.fL2_n, Dl.fL2_c, Dl.fL2_b, Dl.fL2_r, Dl.fL2_if, Dl.e_ixE, Dl.iE_l, Dl.iE_t, Dl.iE_s, Dl.iE2_b, Dl.e_ixR1, Dl.e_ixR2, Dl.kWh_t, Dl.kWh_f, Dl.wh1_n, Dl.wh1_c, Dl.wh1_b, Dl.wh1_r, Dl.e_backAt, Dl.bk1_b, Dl.bk_n, Dl.bk_b, Dl.bk_c, Dl.bk_r, Dl.bkO_s, Dl.bk_if, Dl.s_lock, Dl.lkS_o, Dl.lkS_d, Dl.lkS_b, Dl.bkN_s, Dl.bkN1_s, Dl.e_lockN, Dl.lkN_o, Dl.lkN_d, Dl.lkN_b, Dl.rst1_d, Dl.rst1_n, Dl.wp_0, Dl.wp_S, Dl.rd_0, Dl.rd_S, Dl.e_lcN, Dl.lcR1_s, Dl.lcR2_s, Dl.lc_0, Dl.lc1_s, Dl.lc2_b, Dl.lc3_s, Dl.lc4_s, Dl.ts_n, Dl.ts_s, Dl.fE_n, Dl.fE_r, Dl.fE_x, Dl.fE_b, Dl.fE_if, Dl.en_0, Dl.en_1, Dl.okT_d, Dl.okT_o, Dl.oRt_s, Dl.fE_of, Dl.kop1, Dl.kop2, Dl.kop2b, Dl.kopA, Dl.kTru, Dl.kFz, Dl.kAndV, Dl.kOrV, Dl.kch1, Dl.kch2, Dl.kTup, Dl.kLst, Dl.kSl, Dl.tdO, Dl.T.dat, Dl.fzO, Dl.kAs, Dl.kG, Dl.kU, Dl.kR, Dl.kRs, Dl.kMe, Dl.kMe2, Dl.kCh, Dl.kSi, Dl.kSi3, Dl.kAg, Dl.slO, Dl.uAt, Option.bind_some, Option.map_some, List.getElem?_cons_zero, List.getElem?_cons_succ, List.set_cons_zero, List.set_cons_succ, List.length_cons, List.length_nil, Bool.true_and, Bool.and_true, Bool.not_true, Bool.not_false, if_true, if_false, Bool.false_eq_true, decide_eq_true_eq, Nat.zero_add, Nat.reduceAdd, Nat.reduceLT, List.nil_append, List.cons_append, List.isEmpty_cons, List.isEmpty_nil, Dl.geq_i, Dl.it_l, Dl.gx_l, Dl.gx_t, Dl.at_0, Dl.at_1, Dl.at_2, Dl.at_3, Dl.at_4, Dl.at_5, Dl.at_6, Dl.at_7, Dl.at_8, Dl.at_9, Dl.tr_b, Dl.tr_i, Dl.tr_n, Dl.tr_l, Dl.tr_t, Dl.gadd_i, Dl.gsub_i, Dl.gneg_i, Dl.glt_i, Dl.gle_i, Dl.ggt_i, Dl.gge_i, Dl.gaddI_i, Dl.gne_i, Dl.glen_l, Dl.glen_t, Dl.gint_i, Dl.gmin2_i, Dl.gmax2_i, Dl.gmaxL_2, Dl.gminL_2, Dl.gabs_i, Dl.geq_s, Dl.gne_s, ht, g1, g2, g3, g4, h, askR]
theorem asked_3 {w : Str} {m : List T → Fo} {a b c : D} (ht : tab w = some (3, [], m)) : m__law_asked [.d (fnD w), .d (.list [a, b, c])] = askR (m [.d a, .d b, .d c]) := by
  rw [u__law_asked]
  unfold b__law_asked
  have g1 : decide (((0 + 1 + 1 + 1 : Nat) : Int) < 3) = false := by decide
  have g2 : decide (((0 + 1 + 1 + 1 : Nat) : Int) = 1) = false := by decide
  have g3 : decide (((0 + 1 + 1 + 1 : Nat) : Int) < 5) = true := by decide
  have g4 : decide (((0 + 1 + 1 + 1 : Nat) : Int) = 3) = true := by decide
  cases h : m [.d a, .d b, .d c] with
  | ret t us => cases t <;> simp only [Dl.gd0, Dl.gdS, Dl.st0, Dl.stS, Dl.bd_ok, Dl.bd_ex, Dl.bd_bad, Dl.bd_if, Dl.bA_ok, Dl.bA_ex, Dl.bA_bad, Dl.bA_if, Dl.ou_ok, Dl.ou_ex, Dl.ou_bad, Dl.ou_if, Dl.sq_nx, Dl.sq_rt, Dl.sq_bk, Dl.sq_ct, Dl.sq_ex, Dl.sq_bad, Dl.sq_if, Dl.td_d, Dl.td_s, Dl.tds_0, Dl.tds_S, Dl.fz_d, Dl.fz_s, Dl.fzs_0, Dl.fzs_S, Dl.fz1_s, Dl.fz2_s, Dl.e_cst, Dl.e_var, Dl.var_d, Dl.var_own, Dl.var_bor, Dl.var_odk, Dl.var_odt, Dl.var_bdk, Dl.var_bdt, Dl.of_s, Dl.of_n, Dl.of_if, Dl.o1_s, Dl.o2_s, Dl.oA_s, Dl.e_op1, Dl.e_op2, Dl.ev_0, Dl.ev_S, Dl.evB_ok, Dl.evB_ex, Dl.evB_bad, Dl.evB_if, Dl.evC_ok, Dl.evC_ex, Dl.evC_bad, Dl.evC_if, Dl.e_opA, Dl.oTru_s, Dl.oTru2_s, Dl.e_tru, Dl.e_and, Dl.e_or, Dl.e_not, Dl.e_ifE, Dl.kAnd_b, Dl.kOr_b, Dl.kNot_b, Dl.kIfE_b, Dl.e_andV, Dl.e_orV, Dl.oAndV_b, Dl.oOrV_b, Dl.e_notV, Dl.e_chain, Dl.chn_1, Dl.chn_2, Dl.och0_s, Dl.och_b, Dl.e_tup, Dl.e_lst, Dl.oTup_s, Dl.oLst_s, Dl.e_frz, Dl.oFz_s, Dl.pt_0, Dl.pt_1, Dl.pOf_i, Dl.sl2_s, Dl.sl1_s, Dl.sl3_s, Dl.e_sl, Dl.e_ofN, Dl.oN_d, Dl.oN_own, Dl.oN_odk, Dl.oN_odt, Dl.oN_bor, Dl.oN_bdk, Dl.oN_bdt, Dl.oN_r, Dl.oN_n, Dl.oN_if, Dl.e_call, Dl.cN_ok, Dl.cN_ex, Dl.cN_bad, Dl.cN_if, Dl.e_callA, Dl.cA1_s, Dl.cA2_r, Dl.cA2_x, Dl.cA2_b, Dl.cA2_if, Dl.di_0, Dl.di_d, Dl.so_d, Dl.so_s, Dl.di_s, Dl.di1_0, Dl.di1_d, Dl.at_d, Dl.at_s, Dl.arg1_o, Dl.arg1_l, Dl.arg1_b, Dl.ats_0, Dl.ats_S, Dl.oC_s, Dl.pu_0, Dl.pu_S, Dl.pu1_s, Dl.pu1_n, Dl.e_callV, Dl.cV1_s, Dl.cV2_s, Dl.s_seq, Dl.s_nx, Dl.s_bk, Dl.s_ct, Dl.s_expr, Dl.kX_e, Dl.s_asg, Dl.as1_s, Dl.s_ret, Dl.kRt_d, Dl.kRt_s, Dl.rt1_o, Dl.s_retNone, Dl.s_if, Dl.kIf_b, Dl.s_asgN, Dl.s_retN, Dl.aN_s, Dl.aN_r, Dl.rN_s, Dl.rN_r, Dl.aN_b, Dl.rN_b, Dl.aN_if, Dl.rN_if, Dl.s_asgG, Dl.g1_s, Dl.g2_s, Dl.aT_n, Dl.aT_p, Dl.aT_l, Dl.s_asgU, Dl.aU_s, Dl.aTs_0, Dl.aTs_n, Dl.s_asgR, Dl.gR_s, Dl.s_raise, Dl.rs1_s, Dl.s_try, Dl.tr1_r, Dl.tr1_n, Dl.tr1_x, Dl.tr1_b, Dl.tr1_if, Dl.un_r, Dl.un_x, Dl.un_b, Dl.un_if, Dl.e_isX, Dl.ix1_s, Dl.e_atX, Dl.ax1_s, Dl.e_newA, Dl.nA_ok, Dl.nA1_s, Dl.nA2_s, Dl.e_newL, Dl.nL_ok, Dl.nL_ex, Dl.nL_b, Dl.nL_if, Dl.nL1_s, Dl.e_me, Dl.me1_s, Dl.me3_s, Dl.e_ch, Dl.ch0_o, Dl.ch1_s, Dl.ch2_s, Dl.ch3_s, Dl.ch3_if, Dl.s_setIx, Dl.si1_s, Dl.si2_o, Dl.si3_s, Dl.si4_s, Dl.s_aug, Dl.ag1_d, Dl.ag2_s, Dl.ag3_s, Dl.s_for, Dl.fS_s, Dl.fS_if, Dl.fL_0, Dl.fL1_s, Dl.fL2_n, Dl.fL2_c, Dl.fL2_b, Dl.fL2_r, Dl.fL2_if, Dl.e_ixE, Dl.iE_l, Dl.iE_t, Dl.iE_s, Dl.iE2_b, Dl.e_ixR1, Dl.e_ixR2, Dl.kWh_t, Dl.kWh_f, Dl.wh1_n, Dl.wh1_c, Dl.wh1_b, Dl.wh1_r, Dl.e_backAt, Dl.bk1_b, Dl.bk_n, Dl.bk_b, Dl.bk_c, Dl.bk_r, Dl.bkO_s, Dl.bk_if, Dl.s_lock, Dl.lkS_o, Dl.lkS_d, Dl.lkS_b, Dl.bkN_s, Dl.bkN1_s, Dl.e_lockN, Dl.lkN_o, Dl.lkN_d, Dl.lkN_b, Dl.rst1_d, Dl.rst1_n, Dl.wp_0, Dl.wp_S, Dl.rd_0, Dl.rd_S, Dl.e_lcN, Dl.lcR1_s, Dl.lcR2_s, Dl.lc_0, Dl.lc1_s, Dl.lc2_b, Dl.lc3_s, Dl.lc4_s, Dl.ts_n, Dl.ts_s, Dl.fE_n, Dl.fE_r, Dl.fE_x, Dl.fE_b, Dl.fE_if, Dl.en_0, Dl.en_1, Dl.okT_d, Dl.okT_o, Dl.oRt_s, Dl.fE_of, Dl.kop1, Dl.kop2, Dl.kop2b, Dl.kopA, Dl.kTru, Dl.kFz, Dl.kAndV, Dl.kOrV, Dl.kch1, Dl.kch2, Dl.kTup, Dl.kLst, Dl.kSl, Dl.tdO, Dl.T.dat, Dl.fzO, Dl.kAs, Dl.kG, Dl.kU, Dl.kR, Dl.kRs, Dl.kMe, Dl.kMe2, Dl.kCh, Dl.kSi, Dl.kSi3, Dl.kAg, Dl.slO, Dl.uAt, Option.bind_some, Option.map_some, List.getElem?_cons_zero, List.getElem?_cons_succ, List.set_cons_zero, List.set_cons_succ, List.length_cons, List.length_nil, Bool.true_and, Bool.and_true, Bool.not_true, Bool.not_false, if_true, if_false, Bool.false_eq_true, decide_eq_true_eq, Nat.zero_add, Nat.reduceAdd, Nat.reduceLT, List.nil_append, List.cons_append, List.isEmpty_cons, List.isEmpty_nil, Dl.geq_i, Dl.it_l, Dl.gx_l, Dl.gx_t, Dl.at_0, Dl.at_1, Dl.at_2, Dl.at_3, Dl.at_4, Dl.at_5, Dl.at_6, Dl.at_7, Dl.at_8, Dl.at_9, Dl.tr_b, Dl.tr_i, Dl.tr_n, Dl.tr_l, Dl.tr_t, Dl.gadd_i, Dl.gsub_i, Dl.gneg_i, Dl.glt_i, Dl.gle_i, Dl.ggt_i, Dl.gge_i, Dl.gaddI_i, Dl.gne_i, Dl.glen_l, Dl.glen_t, Dl.gint_i, Dl.gmin2_i, Dl.gmax2_i, Dl.gmaxL_2, Dl.gminL_2, Dl.gabs_i, Dl.geq_s, Dl.gne_s, ht, g1, g2, g3, g4, h, askR, askT]
  | ex c x us =>
    by_cases hc : c ∈ errs
    · simp only [Dl.gd0, Dl.gdS, Dl.st0, Dl.stS, Dl.bd_ok, Dl.bd_ex, Dl.bd_bad, Dl.bd_if, Dl.bA_ok, Dl.bA_ex, Dl.bA_bad, Dl.bA_if, Dl.ou_ok, Dl.ou_ex, Dl.ou_bad, Dl.ou_if, Dl.sq_nx, Dl.sq_rt, Dl.sq_bk, Dl.sq_ct, Dl.sq_ex, Dl.sq_bad, Dl.sq_if, Dl.td_d, Dl.td_s, Dl.tds_0, Dl.tds_S, Dl.fz_d, Dl.fz_s, Dl.fzs_0, Dl.fzs_S, Dl.fz1_s, Dl.fz2_s, Dl.e_cst, Dl.e_var, Dl.var_d, Dl.var_own, Dl.var_bor, Dl.var_odk, Dl.var_odt, Dl.var_bdk, Dl.var_bdt, Dl.of_s, Dl.of_n, Dl.of_if, Dl.o1_s, Dl.o2_s, Dl.oA_s, Dl.e_op1, Dl.e_op2, Dl.ev_0, Dl.ev_S, Dl.evB_ok, Dl.evB_ex, Dl.evB_bad, Dl.evB_if, Dl.evC_ok, Dl.evC_ex, Dl.evC_bad, Dl.evC_if, Dl.e_opA, Dl.oTru_s, Dl.oTru2_s, Dl.e_tru, Dl.e_and, Dl.e_or, Dl.e_not, Dl.e_ifE, Dl.kAnd_b, Dl.kOr_b, Dl.kNot_b, Dl.kIfE_b, Dl.e_andV, Dl.e_orV, Dl.oAndV_b, Dl.oOrV_b, Dl.e_notV, Dl.e_chain, Dl.chn_1, Dl.chn_2, Dl.och0_s, Dl.och_b, Dl.e_tup, Dl.e_lst, Dl.oTup_s, Dl.oLst_s, Dl.e_frz, Dl.oFz_s, Dl.pt_0, Dl.pt_1, Dl.pOf_i, Dl.sl2_s, Dl.sl1_s, Dl.sl3_s, Dl.e_sl, Dl.e_ofN, Dl.oN_d, Dl.oN_own, Dl.oN_odk, Dl.oN_odt, Dl.oN_bor, Dl.oN_bdk, Dl.oN_bdt, Dl.oN_r, Dl.oN_n, Dl.oN_if, Dl.e_call, Dl.cN_ok, Dl.cN_ex, Dl.cN_bad, Dl.cN_if, Dl.e_callA, Dl.cA1_s, Dl.cA2_r, Dl.cA2_x, Dl.cA2_b, Dl.cA2_if, Dl.di_0, Dl.di_d, Dl.so_d, Dl.so_s, Dl.di_s, Dl.di1_0, Dl.di1_d, Dl.at_d, Dl.at_s, Dl.arg1_o, Dl.arg1_l, Dl.arg1_b, Dl.ats_0, Dl.ats_S, Dl.oC_s, Dl.pu_0, Dl.pu_S, Dl.pu1_s, Dl.pu1_n, Dl.e_callV, Dl.cV1_s, Dl.cV2_s, Dl.s_seq, Dl.s_nx, Dl.s_bk, Dl.s_ct, Dl.s_expr, Dl.kX_e, Dl.s_asg, Dl.as1_s, Dl.s_ret, Dl.kRt_d, Dl.kRt_s, Dl.rt1_o, Dl.s_retNone, Dl.s_if, Dl.kIf_b, Dl.s_asgN, Dl.s_retN, Dl.aN_s, Dl.aN_r, Dl.rN_s, Dl.rN_r, Dl.aN_b, Dl.rN_b, Dl.aN_if, Dl.rN_if, Dl.s_asgG, Dl.g1_s, Dl.g2_s, Dl.aT_n, Dl.aT_p, Dl.aT_l, Dl.s_asgU, Dl.aU_s, Dl.aTs_0, Dl.aTs_n, Dl.s_asgR, Dl.gR_s, Dl.s_raise, Dl.rs1_s, Dl.s_try, Dl.tr1_r, Dl.tr1_n, Dl.tr1_x, Dl.tr1_b, Dl.tr1_if, Dl.un_r, Dl.un_x, Dl.un_b, Dl.un_if, Dl.e_isX, Dl.ix1_s, Dl.e_atX, Dl.ax1_s, Dl.e_newA, Dl.nA_ok, Dl.nA1_s, Dl.nA2_s, Dl.e_newL, Dl.nL_ok, Dl.nL_ex, Dl.nL_b, Dl.nL_if, Dl.nL1_s, Dl.e_me, Dl.me1_s, Dl.me3_s, Dl.e_ch, Dl.ch0_o, Dl.ch1_s, Dl.ch2_s, Dl.ch3_s, Dl.ch3_if, Dl.s_setIx, Dl.si1_s, Dl.si2_o, Dl.si3_s, Dl.si4_s, Dl.s_aug, Dl.ag1_d, Dl.ag2_s, Dl.ag3_s, Dl.s_for, Dl.fS_s, Dl.fS_if, Dl.fL_0, Dl.fL1_s, Dl.fL2_n, Dl.fL2_c, Dl.fL2_b, Dl.fL2_r, Dl.fL2_if, Dl.e_ixE, Dl.iE_l, Dl.iE_t, Dl.iE_s, Dl.iE2_b, Dl.e_ixR1, Dl.e_ixR2, Dl.kWh_t, Dl.kWh_f, Dl.wh1_n, Dl.wh1_c, Dl.wh1_b, Dl.wh1_r, Dl.e_backAt, Dl.bk1_b, Dl.bk_n, Dl.bk_b, Dl.bk_c, Dl.bk_r, Dl.bkO_s, Dl.bk_if, Dl.s_lock, Dl.lkS_o, Dl.lkS_d, Dl.lkS_b, Dl.bkN_s, Dl.bkN1_s, Dl.e_lockN, Dl.lkN_o, Dl.lkN_d, Dl.lkN_b, Dl.rst1_d, Dl.rst1_n, Dl.wp_0, Dl.wp_S, Dl.rd_0, Dl.rd_S, Dl.e_lcN, Dl.lcR1_s, Dl.lcR2_s, Dl.lc_0, Dl.lc1_s, Dl.lc2_b, Dl.lc3_s, Dl.lc4_s, Dl.ts_n, Dl.ts_s, Dl.fE_n, Dl.fE_r, Dl.fE_x, Dl.fE_b, Dl.fE_if, Dl.en_0, Dl.en_1, Dl.okT_d, Dl.okT_o, Dl.oRt_s, Dl.fE_of, Dl.kop1, Dl.kop2, Dl.kop2b, Dl.kopA, Dl.kTru, Dl.kFz, Dl.kAndV, Dl.kOrV, Dl.kch1, Dl.kch2, Dl.kTup, Dl.kLst, Dl.kSl, Dl.tdO, Dl.T.dat, Dl.fzO, Dl.kAs, Dl.kG, Dl.kU, Dl.kR, Dl.kRs, Dl.kMe, Dl.kMe2, Dl.kCh, Dl.kSi, Dl.kSi3, Dl.kAg, Dl.slO, Dl.uAt, Option.bind_some, Option.map_some, List.getElem?_cons_zero, List.getElem?_cons_succ, List.set_cons_zero, List.set_cons_succ, List.length_cons, List.length_nil, Bool.true_and, Bool.and_true, Bool.not_true, Bool.not_false, if_true, if_false, Bool.false_eq_true, decide_eq_true_eq, Nat.zero_add, Nat.reduceAdd, Nat.reduceLT, List.nil_append, List.cons_append, List.isEmpty_cons, List.isEmpty_nil, Dl.geq_i, Dl.it_l, Dl.gx_l, Dl.gx_t, Dl.at_0, Dl.at_1, Dl.at_2, Dl.at_3, Dl.at_4, Dl.at_5, Dl.at_6, Dl.at_7, Dl.at_8, Dl.at_9, Dl.tr_b, Dl.tr_i, Dl.tr_n, Dl.tr_l, Dl.tr_t, Dl.gadd_i, Dl.gsub_i, Dl.gneg_i, Dl.glt_i, Dl.gle_i, Dl.ggt_i, Dl.gge_i, Dl.gaddI_i, Dl.gne_i, Dl.glen_l, Dl.glen_t, Dl.gint_i, Dl.gmin2_i, Dl.gmax2_i, Dl.gmaxL_2, Dl.gminL_2, Dl.gabs_i, Dl.geq_s, Dl.gne_s, ht, g1, g2, g3, g4, h, askR, hc]
      cases hw : m__law_word 0 0 c [T.d (excD 0 0 c x)] with
      | ret t us => simp only [Dl.gd0, Dl.gdS, Dl.st0, Dl.stS, Dl.bd_ok, Dl.bd_ex, Dl.bd_bad, Dl.bd_if, Dl.bA_ok, Dl.bA_ex, Dl.bA_bad, Dl.bA_if, Dl.ou_ok, Dl.ou_ex, Dl.ou_bad, Dl.ou_if, Dl.sq_nx, Dl.sq_rt, Dl.sq_bk, Dl.sq_ct, Dl.sq_ex, Dl.sq_bad, Dl.sq_if, Dl.td_d, Dl.td_s, Dl.tds_0, Dl.tds_S, Dl.fz_d, Dl.fz_s, Dl.fzs_0, Dl.fzs_S, Dl.fz1_s, Dl.fz2_s, Dl.e_cst, Dl.e_var, Dl.var_d, Dl.var_own, Dl.var_bor, Dl.var_odk, Dl.var_odt, Dl.var_bdk, Dl.var_bdt, Dl.of_s, Dl.of_n, Dl.of_if, Dl.o1_s, Dl.o2_s, Dl.oA_s, Dl.e_op1, Dl.e_op2, Dl.ev_0, Dl.ev_S, Dl.evB_ok, Dl.evB_ex, Dl.evB_bad, Dl.evB_if, Dl.evC_ok, Dl.evC_ex, Dl.evC_bad, Dl.evC_if, Dl.e_opA, Dl.oTru_s, Dl.oTru2_s, Dl.e_tru, Dl.e_and, Dl.e_or, Dl.e_not, Dl.e_ifE, Dl.kAnd_b, Dl.kOr_b, Dl.kNot_b, Dl.kIfE_b, Dl.e_andV, Dl.e_orV, Dl.oAndV_b, Dl.oOrV_b, Dl.e_notV, Dl.e_chain, Dl.chn_1, Dl.chn_2, Dl.och0_s, Dl.och_b, Dl.e_tup, Dl.e_lst, Dl.oTup_s, Dl.oLst_s, Dl.e_frz, Dl.oFz_s, Dl.pt_0, Dl.pt_1, Dl.pOf_i, Dl.sl2_s, Dl.sl1_s, Dl.sl3_s, Dl.e_sl, Dl.e_ofN, Dl.oN_d, Dl.oN_own, Dl.oN_odk, Dl.oN_odt, Dl.oN_bor, Dl.oN_bdk, Dl.oN_bdt, Dl.oN_r, Dl.oN_n, Dl.oN_if, Dl.e_call, Dl.cN_ok, Dl.cN_ex, Dl.cN_bad, Dl.cN_if, Dl.e_callA, Dl.cA1_s, Dl.cA2_r, Dl.cA2_x, Dl.cA2_b, Dl.cA2_if, Dl.di_0, Dl.di_d, Dl.so_d, Dl.so_s, Dl.di_s, Dl.di1_0, Dl.di1_d, Dl.at_d, Dl.at_s, Dl.arg1_o, Dl.arg1_l, Dl.arg1_b, Dl.ats_0, Dl.ats_S, Dl.oC_s, Dl.pu_0, Dl.pu_S, Dl.pu1_s, Dl.pu1_n, Dl.e_callV, Dl.cV1_s, Dl.cV2_s, Dl.s_seq, Dl.s_nx, Dl.s_bk, Dl.s_ct, Dl.s_expr, Dl.kX_e, Dl.s_asg, Dl.as1_s, Dl.s_ret, Dl.kRt_d, Dl.kRt_s, Dl.rt1_o, Dl.s_retNone, Dl.s_if, Dl.kIf_b, Dl.s_asgN, Dl.s_retN, Dl.aN_s, Dl.aN_r, Dl.rN_s, Dl.rN_r, Dl.aN_b, Dl.rN_b, Dl.aN_if, Dl.rN_if, Dl.s_asgG, Dl.g1_s, Dl.g2_s, Dl.aT_n, Dl.aT_p, Dl.aT_l, Dl.s_asgU, Dl.aU_s, Dl.aTs_0, Dl.aTs_n, Dl.s_asgR, Dl.gR_s, Dl.s_raise, Dl.rs1_s, Dl.s_try, Dl.tr1_r, Dl.tr1_n, Dl.tr1_x, Dl.tr1_b, Dl.tr1_if, Dl.un_r, Dl.un_x, Dl.un_b, Dl.un_if, Dl.e_isX, Dl.ix1_s, Dl.e_atX, Dl.ax1_s, Dl.e_newA, Dl.nA_ok, Dl.nA1_s, Dl.nA2_s, Dl.e_newL, Dl.nL_ok, Dl.nL_ex, Dl.nL_b, Dl.nL_if, Dl.nL1_s, Dl.e_me, Dl.me1_s, Dl.me3_s, Dl.e_ch, Dl.ch0_o, Dl.ch1_s, Dl.ch2_s, Dl.ch3_s, Dl.ch3_if, Dl.s_setIx, Dl.si1_s, Dl.si2_o, Dl.si3_s, Dl.si4_s, Dl.s_aug, Dl.ag1_d, Dl.ag2_s, Dl.ag3_s, Dl.s_for, Dl.fS_s, Dl.fS_if, Dl.fL_0, Dl.fL1_s, Dl.fL2_n, Dl.fL2_c, Dl.fL2_b, Dl.fL2_r, Dl.fL2_if, Dl.e_ixE, Dl.iE_l, Dl.iE_t, Dl.iE_s, Dl.iE2_b, Dl.e_ixR1, Dl.e_ixR2, Dl.kWh_t, Dl.kWh_f, Dl.wh1_n, Dl.wh1_c, Dl.wh1_b, Dl.wh1_r, Dl.e_backAt, Dl.bk1_b, Dl.bk_n, Dl.bk_b, Dl.bk_c, Dl.bk_r, Dl.bkO_s, Dl.bk_if, Dl.s_lock, Dl.lkS_o, Dl.lkS_d, Dl.lkS_b, Dl.bkN_s, Dl.bkN1_s, Dl.e_lockN, Dl.lkN_o, Dl.lkN_d, Dl.lkN_b, Dl.rst1_d, Dl.rst1_n, Dl.wp_0, Dl.wp_S, Dl.rd_0, Dl.rd_S, Dl.e_lcN, Dl.lcR1_s, Dl.lcR2_s, Dl.lc_0, Dl.lc1_s, Dl.lc2_b, Dl.lc3_s, Dl.lc4_s, Dl.ts_n, Dl.ts_s, Dl.fE_n, Dl.fE_r, Dl.fE_x, Dl.fE_b, Dl.fE_if, Dl.en_0, Dl.en_1, Dl.okT_d, Dl.okT_o, Dl.oRt_s, Dl.fE_of, Dl.kop1, Dl.kop2, Dl.kop2b, Dl.kopA, Dl.kTru, Dl.kFz, Dl.kAndV, Dl.kOrV, Dl.kch1, Dl.kch2, Dl.kTup, Dl.kLst, Dl.kSl, Dl.tdO, Dl.T.dat, Dl.fzO, Dl.kAs, Dl.kG, Dl.kU, Dl.kR, Dl.kRs, Dl.kMe, Dl.kMe2, Dl.kCh, Dl.kSi, Dl.kSi3, Dl.kAg, Dl.slO, Dl.uAt, Option.bind_some, Option.map_some, List.getElem?_cons_zero, List.getElem?_cons_succ, List.set_cons_zero, List.set_cons_succ, List.length_cons, List.length_nil, Bool.true_and, Bool.and_true, Bool.not_true, Bool.not_false, if_true, if_false, Bool.false_eq_true, decide_eq_true_eq, Nat.zero_add, Nat.reduceAdd, Nat.reduceLT, List.nil_append, List.cons_append, List.isEmpty_cons, List.isEmpty_nil, Dl.geq_i, Dl.it_l, Dl.gx_l, Dl.gx_t, Dl.at_0, Dl.at_1, Dl.at_2, Dl.at_3, Dl.at_4, Dl.at_5, Dl.at_6, Dl.at_7, Dl.at_8, Dl.at_9, Dl.tr_b, Dl.tr_i, Dl.tr_n, Dl.tr_l, Dl.tr_t, Dl.gadd_i, Dl.gsub_i, Dl.gneg_i, Dl.glt_i, Dl.gle_i, Dl.ggt_i, Dl.gge_i, Dl.gaddI_i, Dl.gne_i, Dl.glen_l, Dl.glen_t, Dl.gint_i, Dl.gmin2_i, Dl.gmax2_i, Dl.gmaxL_2, Dl.gminL_2, Dl.gabs_i, Dl.geq_s, Dl.gne_s, wordR]
      | ex c2 x2 us => simp only [Dl.gd0, Dl.gdS, Dl.st0, Dl.stS, Dl.bd_ok, Dl.bd_ex, Dl.bd_bad, Dl.bd_if, Dl.bA_ok, Dl.bA_ex, Dl.bA_bad, Dl.bA_if, Dl.ou_ok, Dl.ou_ex, Dl.ou_bad, Dl.ou_if, Dl.sq_nx, Dl.sq_rt, Dl.sq_bk, Dl.sq_ct, Dl.sq_ex, Dl.sq_bad, Dl.sq_if, Dl.td_d, Dl.td_s, Dl.tds_0, Dl.tds_S, Dl.fz_d, Dl.fz_s, Dl.fzs_0, Dl.fzs_S, Dl.fz1_s, Dl.fz2_s, Dl.e_cst, Dl.e_var, Dl.var_d, Dl.var_own, Dl.var_bor, Dl.var_odk, Dl.var_odt, Dl.var_bdk, Dl.var_bdt, Dl.of_s, Dl.of_n, Dl.of_if, Dl.o1_s, Dl.o2_s, Dl.oA_s, Dl.e_op1, Dl.e_op2, Dl.ev_0, Dl.ev_S, Dl.evB_ok, Dl.evB_ex, Dl.evB_bad, Dl.evB_if, Dl.evC_ok, Dl.evC_ex, Dl.evC_bad, Dl.evC_if, Dl.e_opA, Dl.oTru_s, Dl.oTru2_s, Dl.e_tru, Dl.e_and, Dl.e_or, Dl.e_not, Dl.e_ifE, Dl.kAnd_b, Dl.kOr_b, Dl.kNot_b, Dl.kIfE_b, Dl.e_andV, Dl.e_orV, Dl.oAndV_b, Dl.oOrV_b, Dl.e_notV, Dl.e_chain, Dl.chn_1, Dl.chn_2, Dl.och0_s, Dl.och_b, Dl.e_tup, Dl.e_lst, Dl.oTup_s, Dl.oLst_s, Dl.e_frz, Dl.oFz_s, Dl.pt_0, Dl.pt_1, Dl.pOf_i, Dl.sl2_s, Dl.sl1_s, Dl.sl3_s, Dl.e_sl, Dl.e_ofN, Dl.oN_d, Dl.oN_own, Dl.oN_odk, Dl.oN_odt, Dl.oN_bor, Dl.oN_bdk, Dl.oN_bdt, Dl.oN_r, Dl.oN_n, Dl.oN_if, Dl.e_call, Dl.cN_ok, Dl.cN_ex, Dl.cN_bad, Dl.cN_if, Dl.e_callA, Dl.cA1_s, Dl.cA2_r, Dl.cA2_x, Dl.cA2_b, Dl.cA2_if, Dl.di_0, Dl.di_d, Dl.so_d, Dl.so_s, Dl.di_s, Dl.di1_0, Dl.di1_d, Dl.at_d, Dl.at_s, Dl.arg1_o, Dl.arg1_l, Dl.arg1_b, Dl.ats_0, Dl.ats_S, Dl.oC_s, Dl.pu_0, Dl.pu_S, Dl.pu1_s, Dl.pu1_n, Dl.e_callV, Dl.cV1_s, Dl.cV2_s, Dl.s_seq, Dl.s_nx, Dl.s_bk, Dl.s_ct, Dl.s_expr, Dl.kX_e, Dl.s_asg, Dl.as1_s, Dl.s_ret, Dl.kRt_d, Dl.kRt_s, Dl.rt1_o, Dl.s_retNone, Dl.s_if, Dl.kIf_b, Dl.s_asgN, Dl.s_retN, Dl.aN_s, Dl.aN_r, Dl.rN_s, Dl.rN_r, Dl.aN_b, Dl.rN_b, Dl.aN_if, Dl.rN_if, Dl.s_asgG, Dl.g1_s, Dl.g2_s, Dl.aT_n, Dl.aT_p, Dl.aT_l, Dl.s_asgU, Dl.aU_s, Dl.aTs_0, Dl.aTs_n, Dl.s_asgR, Dl.gR_s, Dl.s_raise, Dl.rs1_s, Dl.s_try, Dl.tr1_r, Dl.tr1_n, Dl.tr1_x, Dl.tr1_b, Dl.tr1_if, Dl.un_r, Dl.un_x, Dl.un_b, Dl.un_if, Dl.e_isX, Dl.ix1_s, Dl.e_atX, Dl.ax1_s, Dl.e_newA, Dl.nA_ok, Dl.nA1_s, Dl.nA2_s, Dl.e_newL, Dl.nL_ok, Dl.nL_ex, Dl.nL_b, Dl.nL_if, Dl.nL1_s, Dl.e_me, Dl.me1_s, Dl.me3_s, Dl.e_ch, Dl.ch0_o, Dl.ch1_s, Dl.ch2_s, Dl.ch3_s, Dl.ch3_if, Dl.s_setIx, Dl.si1_s, Dl.si2_o, Dl.si3_s, Dl.si4_s, Dl.s_aug, Dl.ag1_d, Dl.ag2_s, Dl.ag3_s, Dl.s_for, Dl.fS_s, Dl.fS_if, Dl.fL_0, Dl.fL1_s, Dl.fL2_n, Dl.fL2_c, Dl.fL2_b, Dl.fL2_r, Dl.fL2_if, Dl.e_ixE, Dl.iE_l, Dl.iE_t, Dl.iE_s, Dl.iE2_b, Dl.e_ixR1, Dl.e_ixR2, Dl.kWh_t, Dl.kWh_f, Dl.wh1_n, Dl.wh1_c, Dl.wh1_b, Dl.wh1_r, Dl.e_backAt, Dl.bk1_b, Dl.bk_n, Dl.bk_b, Dl.bk_c, Dl.bk_r, Dl.bkO_s, Dl.bk_if, Dl.s_lock, Dl.lkS_o, Dl.lkS_d, Dl.lkS_b, Dl.bkN_s, Dl.bkN1_s, Dl.e_lockN, Dl.lkN_o, Dl.lkN_d, Dl.lkN_b, Dl.rst1_d, Dl.rst1_n, Dl.wp_0, Dl.wp_S, Dl.rd_0, Dl.rd_S, Dl.e_lcN, Dl.lcR1_s, Dl.lcR2_s, Dl.lc_0, Dl.lc1_s, Dl.lc2_b, Dl.lc3_s, Dl.lc4_s, Dl.ts_n, Dl.ts_s, Dl.fE_n, Dl.fE_r, Dl.fE_x, Dl.fE_b, Dl.fE_if, Dl.en_0, Dl.en_1, Dl.okT_d, Dl.okT_o, Dl.oRt_s, Dl.fE_of, Dl.kop1, Dl.kop2, Dl.kop2b, Dl.kopA, Dl.kTru, Dl.kFz, Dl.kAndV, Dl.kOrV, Dl.kch1, Dl.kch2, Dl.kTup, Dl.kLst, Dl.kSl, Dl.tdO, Dl.T.dat, Dl.fzO, Dl.kAs, Dl.kG, Dl.kU, Dl.kR, Dl.kRs, Dl.kMe, Dl.kMe2, Dl.kCh, Dl.kSi, Dl.kSi3, Dl.kAg, Dl.slO, Dl.uAt, Option.bind_some, Option.map_some, List.getElem?_cons_zero, List.getElem?_cons_succ, List.set_cons_zero, List.set_cons_succ, List.length_cons, List.length_nil, Bool.true_and, Bool.and_true, Bool.not_true, Bool.not_false, if_true, if_false, Bool.false_eq_true, decide_eq_true_eq, Nat.zero_add, Nat.reduceAdd, Nat.reduceLT, List.nil_append, List.cons_append, List.isEmpty_cons, List.isEmpty_nil, Dl.geq_i, Dl.it_l, Dl.gx_l, Dl.gx_t, Dl.at_0, Dl.at_1, Dl.at_2, Dl.at_3, Dl.at_4, Dl.at_5, Dl.at_6, Dl.at_7, Dl.at_8, Dl.at_9, Dl.tr_b, Dl.tr_i, Dl.tr_n, Dl.tr_l, Dl.tr_t, Dl.gadd_i, Dl.gsub_i, Dl.gneg_i, Dl.glt_i, Dl.gle_i, Dl.ggt_i, Dl.gge_i, Dl.gaddI_i, Dl.gne_i, Dl.glen_l, Dl.glen_t, Dl.gint_i, Dl.gmin2_i, Dl.gmax2_i, Dl.gmaxL_2, Dl.gminL_2, Dl.gabs_i, Dl.geq_s, Dl.gne_s, wordR]
      | bad => simp only [Dl.gd0, Dl.gdS, Dl.st0, Dl.stS, Dl.bd_ok, Dl.bd_ex, Dl.bd_bad, Dl.bd_if, Dl.bA_ok, Dl.bA_ex, Dl.bA_bad, Dl.bA_if, Dl.ou_ok, Dl.ou_ex, Dl.ou_bad, Dl.ou_if, Dl.sq_nx, Dl.sq_rt, Dl.sq_bk, Dl.sq_ct, Dl.sq_ex, Dl.sq_bad, Dl.sq_if, Dl.td_d, Dl.td_s, Dl.tds_0, Dl.tds_S, Dl.fz_d, Dl.fz_s, Dl.fzs_0, Dl.fzs_S, Dl.fz1_s, Dl.fz2_s, Dl.e_cst, Dl.e_var, Dl.var_d, Dl.var_own, Dl.var_bor, Dl.var_odk, Dl.var_odt, Dl.var_bdk, Dl.var_bdt, Dl.of_s, Dl.of_n, Dl.of_if, Dl.o1_s, Dl.o2_s, Dl.oA_s, Dl.e_op1, Dl.e_op2, Dl.ev_0, Dl.ev_S, Dl.evB_ok, Dl.evB_ex, Dl.evB_bad, Dl.evB_if, Dl.evC_ok, Dl.evC_ex, Dl.evC_bad, Dl.evC_if, Dl.e_opA, Dl.oTru_s, Dl.oTru2_s, Dl.e_tru, Dl.e_and, Dl.e_or, Dl.e_not, Dl.e_ifE, Dl.kAnd_b, Dl.kOr_b, Dl.kNot_b, Dl.kIfE_b, Dl.e_andV, Dl.e_orV, Dl.oAndV_b, Dl.oOrV_b, Dl.e_notV, Dl.e_chain, Dl.chn_1, Dl.chn_2, Dl.och0_s, Dl.och_b, Dl.e_tup, Dl.e_lst, Dl.oTup_s, Dl.oLst_s, Dl.e_frz, Dl.oFz_s, Dl.pt_0, Dl.pt_1, Dl.pOf_i, Dl.sl2_s, Dl.sl1_s, Dl.sl3_s, Dl.e_sl, Dl.e_ofN, Dl.oN_d, Dl.oN_own, Dl.oN_odk, Dl.oN_odt, Dl.oN_bor, Dl.oN_bdk, Dl.oN_bdt, Dl.oN_r, Dl.oN_n, Dl.oN_if, Dl.e_call, Dl.cN_ok, Dl.cN_ex, Dl.cN_bad, Dl.cN_if, Dl.e_callA, Dl.cA1_s, Dl.cA2_r, Dl.cA2_x, Dl.cA2_b, Dl.cA2_if, Dl.di_0, Dl.di_d, Dl.so_d, Dl.so_s, Dl.di_s, Dl.di1_0, Dl.di1_d, Dl.at_d, Dl.at_s, Dl.arg1_o, Dl.arg1_l, Dl.arg1_b, Dl.ats_0, Dl.ats_S, Dl.oC_s, Dl.pu_0, Dl.pu_S, Dl.pu1_s, Dl.pu1_n, Dl.e_callV, Dl.cV1_s, Dl.cV2_s, Dl.s_seq, Dl.s_nx, Dl.s_bk, Dl.s_ct, Dl.s_expr, Dl.kX_e, Dl.s_asg, Dl.as1_s, Dl.s_ret, Dl.kRt_d, Dl.kRt_s, Dl.rt1_o, Dl.s_retNone, Dl.s_if, Dl.kIf_b, Dl.s_asgN, Dl.s_retN, Dl.aN_s, Dl.aN_r, Dl.rN_s, Dl.rN_r, Dl.aN_b, Dl.rN_b, Dl.aN_if, Dl.rN_if, Dl.s_asgG, Dl.g1_s, Dl.g2_s, Dl.aT_n, Dl.aT_p, Dl.aT_l, Dl.s_asgU, Dl.aU_s, Dl.aTs_0, Dl.aTs_n, Dl.s_asgR, Dl.gR_s, Dl.s_raise, Dl.rs1_s, Dl.s_try, Dl.tr1_r, Dl.tr1_n, Dl.tr1_x, Dl.tr1_b, Dl.tr1_if, Dl.un_r, Dl.un_x, Dl.un_b, Dl.un_if, Dl.e_isX, Dl.ix1_s, Dl.e_atX, Dl.ax1_s, Dl.e_newA, Dl.nA_ok, Dl.nA1_s, Dl.nA2_s, Dl.e_newL, Dl.nL_ok, Dl.nL_ex, Dl.nL_b, Dl.nL_if, Dl.nL1_s, Dl.e_me, Dl.me1_s, Dl.me3_s, Dl.e_ch, Dl.ch0_o, Dl.ch1_s, Dl.ch2_s, Dl.ch3_s, Dl.ch3_if, Dl.s_setIx, Dl.si1_s, Dl.si2_o, Dl.si3_s, Dl.si4_s, Dl.s_aug, Dl.ag1_d, Dl.ag2_s, Dl.ag3_s, Dl.s_for, Dl.fS_s, Dl.fS_if, Dl.fL_0, Dl.fL1_s, Dl.fL2_n, Dl.fL2_c, Dl.fL2_b, Dl.fL2_r, Dl.fL2_if, Dl.e_ixE, Dl.iE_l, Dl.iE_t, Dl.iE_s, Dl.iE2_b, Dl.e_ixR1, Dl.e_ixR2, Dl.kWh_t, Dl.kWh_f, Dl.wh1_n, Dl.wh1_c, Dl.wh1_b, Dl.wh1_r, Dl.e_backAt, Dl.bk1_b, Dl.bk_n, Dl.bk_b, Dl.bk_c, Dl.bk_r, Dl.bkO_s, Dl.bk_if, Dl.s_lock, Dl.lkS_o, Dl.lkS_d, Dl.lkS_b, Dl.bkN_s, Dl.bkN1_s, Dl.e_lockN, Dl.lkN_o, Dl.lkN_d, Dl.lkN_b, Dl.rst1_d, Dl.rst1_n, Dl.wp_0, Dl.wp_S, Dl.rd_0, Dl.rd_S, Dl.e_lcN, Dl.lcR1_s, Dl.lcR2_s, Dl.lc_0, Dl.lc1_s, Dl.lc2_b, Dl.lc3_s, Dl.lc4_s, Dl.ts_n, Dl.ts_s, Dl.fE_n, Dl.fE_r, Dl.fE_x, Dl.fE_b, Dl.fE_if, Dl.en_0, Dl.en_1, Dl.okT_d, Dl.okT_o, Dl.oRt_s, Dl.fE_of, Dl.kop1, Dl.kop2, Dl.kop2b, Dl.kopA, Dl.kTru, Dl.kFz, Dl.kAndV, Dl.kOrV, Dl.kch1, Dl.kch2, Dl.kTup, Dl.kLst, Dl.kSl, Dl.tdO, Dl.T.dat, Dl.fzO, Dl.kAs, Dl.kG, Dl.kU, Dl.kR, Dl.kRs, Dl.kMe, Dl.kMe2, Dl.kCh, Dl.kSi, Dl.kSi3, Dl.kAg, Dl.slO, Dl.uAt, Option.bind_some, Option.map_some, List.getElem?_cons_zero, List.getElem?_cons_succ, List.set_cons_zero, List.set_cons_succ, List.length_cons, List.length_nil, Bool.true_and, Bool.and_true, Bool.not_true, Bool.not_false, if_true, if_false, Bool.false_eq_true, decide_eq_true_eq, Nat.zero_add, Nat.reduceAdd, Nat.reduceLT, List.nil_append, List.cons_append, List.isEmpty_cons, List.isEmpty_nil, Dl.geq_i, Dl.it_l, Dl.gx_l, Dl.gx_t, Dl.at_0, Dl.at_1, Dl.at_2, Dl.at_3, Dl.at_4, Dl.at_5, Dl.at_6, Dl.at_7, Dl.at_8, Dl.at_9, Dl.tr_b, Dl.tr_i, Dl.tr_n, Dl.tr_l, Dl.tr_t, Dl.gadd_i, Dl.gsub_i, Dl.gneg_i, Dl.glt_i, Dl.gle_i, Dl.ggt_i, Dl.gge_i, Dl.gaddI_i, Dl.gne_i, Dl.glen_l, Dl.glen_t, Dl.gint_i, Dl.gmin2_i, Dl.gmax2_i, Dl.gmaxL_2, Dl.gminL_2, Dl.gabs_i, Dl.geq_s, Dl.gne_s, wordR]
    · simp only [Dl.gd0, Dl.gdS, Dl.st0, Dl.stS, Dl.bd_ok, Dl.bd_ex, Dl.bd_bad, Dl.bd_if, Dl.bA_ok, Dl.bA_ex, Dl.bA_bad, Dl.bA_if, Dl.ou_ok, Dl.ou_ex, Dl.ou_bad, Dl.ou_if, Dl.sq_nx, Dl.sq_rt, Dl.sq_bk, Dl.sq_ct, Dl.sq_ex, Dl.sq_bad, Dl.sq_if, Dl.td_d, Dl.td_s, Dl.tds_0, Dl.tds_S, Dl.fz_d, Dl.fz_s, Dl.fzs_0, Dl.fzs_S, Dl.fz1_s, Dl.fz2_s, Dl.e_cst, Dl.e_var, Dl.var_d, Dl.var_own, Dl.var_bor, Dl.var_odk, Dl.var_odt, Dl.var_bdk, Dl.var_bdt, Dl.of_s, Dl.of_n, Dl.of_if, Dl.o1_s, Dl.o2_s, Dl.oA_s, Dl.e_op1, Dl.e_op2, Dl.ev_0, Dl.ev_S, Dl.evB_ok, Dl.evB_ex, Dl.evB_bad, Dl.evB_if, Dl.evC_ok, Dl.evC_ex, Dl.evC_bad, Dl.evC_if, Dl.e_opA, Dl.oTru_s, Dl.oTru2_s, Dl.e_tru, Dl.e_and, Dl.e_or, Dl.e_not, Dl.e_ifE, Dl.kAnd_b, Dl.kOr_b, Dl.kNot_b, Dl.kIfE_b, Dl.e_andV, Dl.e_orV, Dl.oAndV_b, Dl.oOrV_b, Dl.e_notV, Dl.e_chain, Dl.chn_1, Dl.chn_2, Dl.och0_s, Dl.och_b, Dl.e_tup, Dl.e_lst, Dl.oTup_s, Dl.oLst_s, Dl.e_frz, Dl.oFz_s, Dl.pt_0, Dl.pt_1, Dl.pOf_i, Dl.sl2_s, Dl.sl1_s, Dl.sl3_s, Dl.e_sl, Dl.e_ofN, Dl.oN_d, Dl.oN_own, Dl.oN_odk, Dl.oN_odt, Dl.oN_bor, Dl.oN_bdk, Dl.oN_bdt, Dl.oN_r, Dl.oN_n, Dl.oN_if, Dl.e_call, Dl.cN_ok, Dl.cN_ex, Dl.cN_bad, Dl.cN_if, Dl.e_callA, Dl.cA1_s, Dl.cA2_r, Dl.cA2_x, Dl.cA2_b, Dl.cA2_if, Dl.di_0, Dl.di_d, Dl.so_d, Dl.so_s, Dl.di_s, Dl.di1_0, Dl.di1_d, Dl.at_d, Dl.at_s, Dl.arg1_o, Dl.arg1_l, Dl.arg1_b, Dl.ats_0, Dl.ats_S, Dl.oC_s, Dl.pu_0, Dl.pu_S, Dl.pu1_s, Dl.pu1_n, Dl.e_callV, Dl.cV1_s, Dl.cV2_s, Dl.s_seq, Dl.s_nx, Dl.s_bk, Dl.s_ct, Dl.s_expr, Dl.kX_e, Dl.s_asg, Dl.as1_s, Dl.s_ret, Dl.kRt_d, Dl.kRt_s, Dl.rt1_o, Dl.s_retNone, Dl.s_if, Dl.kIf_b, Dl.s_asgN, Dl.s_retN, Dl.aN_s, Dl.aN_r, Dl.rN_s, Dl.rN_r, Dl.aN_b, Dl.rN_b, Dl.aN_if, Dl.rN_if, Dl.s_asgG, Dl.g1_s, Dl.g2_s, Dl.aT_n, Dl.aT_p, Dl.aT_l, Dl.s_asgU, Dl.aU_s, Dl.aTs_0, Dl.aTs_n, Dl.s_asgR, Dl.gR_s, Dl.s_raise, Dl.rs1_s, Dl.s_try, Dl.tr1_r, Dl.tr1_n, Dl.tr1_x, Dl.tr1_b, Dl.tr1_if, Dl.un_r, Dl.un_x, Dl.un_b, Dl.un_if, Dl.e_isX, Dl.ix1_s, Dl.e_atX, Dl.ax1_s, Dl.e_newA, Dl.nA_ok, Dl.nA1_s, Dl.nA2_s, Dl.e_newL, Dl.nL_ok, Dl.nL_ex, Dl.nL_b, Dl.nL_if, Dl.nL1_s, Dl.e_me, Dl.me1_s, Dl.me3_s, Dl.e_ch, Dl.ch0_o, Dl.ch1_s, Dl.ch2_s, Dl.ch3_s, Dl.ch3_if, Dl.s_setIx, Dl.si1_s, Dl.si2_o, Dl.si3_s, Dl.si4_s, Dl.s_aug, Dl.ag1_d, Dl.ag2_s, Dl.ag3_s, Dl.s_for, Dl.fS_s, Dl.fS_if, Dl.fL_0, Dl.fL1_s, Dl.fL2_n, Dl.fL2_c, Dl.fL2_b, Dl.fL2_r, Dl.fL2_if, Dl.e_ixE, Dl.iE_l, Dl.iE_t, Dl.iE_s, Dl.iE2_b, Dl.e_ixR1, Dl.e_ixR2, Dl.kWh_t, Dl.kWh_f, Dl.wh1_n, Dl.wh1_c, Dl.wh1_b, Dl.wh1_r, Dl.e_backAt, Dl.bk1_b, Dl.bk_n, Dl.bk_b, Dl.bk_c, Dl.bk_r, Dl.bkO_s, Dl.bk_if, Dl.s_lock, Dl.lkS_o, Dl.lkS_d, Dl.lkS_b, Dl.bkN_s, Dl.bkN1_s, Dl.e_lockN, Dl.lkN_o, Dl.lkN_d, Dl.lkN_b, Dl.rst1_d, Dl.rst1_n, Dl.wp_0, Dl.wp_S, Dl.rd_0, Dl.rd_S, Dl.e_lcN, Dl.lcR1_s, Dl.lcR2_s, Dl.lc_0, Dl.lc1_s, Dl.lc2_b, Dl.lc3_s, Dl.lc4_s, Dl.ts_n, Dl.ts_s, Dl.fE_n, Dl.fE_r, Dl.fE_x, Dl.fE_b, Dl.fE_if, Dl.en_0, Dl.en_1, Dl.okT_d, Dl.okT_o, Dl.oRt_s, Dl.fE_of, Dl.kop1, Dl.kop2, Dl.kop2b, Dl.kopA, Dl.kTru, Dl.kFz, Dl.kAndV, Dl.kOrV, Dl.kch1, Dl.kch2, Dl.kTup, Dl.kLst, Dl.kSl, Dl.tdO, Dl.T.dat, Dl.fzO, Dl.kAs, Dl.kG, Dl.kU, Dl.kR, Dl.kRs, Dl.kMe, Dl.kMe2, Dl.kCh, Dl.kSi, Dl.kSi3, Dl.kAg, Dl.slO, Dl.uAt, Option.bind_some, Option.map_some, List.getElem?_cons_zero, List.getElem?_cons_succ, List.set_cons_zero, List.set_cons_succ, List.length_cons, List.length_nil, Bool.true_and, Bool.and_true, Bool.not_true, Bool.not_false, if_true, if_false, Bool.false_eq_true, decide_eq_true_eq, Nat.zero_add, Nat.reduceAdd, Nat.reduceLT, List.nil_append, List.cons_append, List.isEmpty_cons, List.isEmpty_nil, Dl.geq_i, Dl.it_l, Dl.gx_l, Dl.gx_t, Dl.at_0, Dl.at_1, Dl.at_2, Dl.at_3, Dl.at_4, Dl.at_5, Dl.at_6, Dl.at_7, Dl.at_8, Dl.at_9, Dl.tr_b, Dl.tr_i, Dl.tr_n, Dl.tr_l, Dl.tr_t, Dl.gadd_i, Dl.gsub_i, Dl.gneg_i, Dl.glt_i, Dl.gle_i, Dl.ggt_i, Dl.gge_i, Dl.gaddI_i, Dl.gne_i, Dl.glen_l, Dl.glen_t, Dl.gint_i, Dl.gmin2_i, Dl.gmax2_i, Dl.gmaxL_2, Dl.gminL_2, Dl.gabs_i, Dl.geq_s, Dl.gne_s, ht, g1, g2, g3, g4, h, askR, hc]
  | bad => simp only [Dl.gd0, Dl.gdS, Dl.st0, Dl.stS, Dl.bd_ok, Dl.bd_ex, Dl.bd_bad, Dl.bd_if, Dl.bA_ok, Dl.bA_ex, Dl.bA_bad, Dl.bA_if, Dl.ou_ok, Dl.ou_ex, Dl.ou_bad, Dl.ou_if, Dl.sq_nx, Dl.sq_rt, Dl.sq_bk, Dl.sq_ct, Dl.sq_ex, Dl.sq_bad, Dl.sq_if, Dl.td_d, Dl.td_s, Dl.tds_0, Dl.tds_S, Dl.fz_d, Dl.fz_s, Dl.fzs_0, Dl.fzs_S, Dl.fz1_s, Dl.fz2_s, Dl.e_cst, Dl.e_var, Dl.var_d, Dl.var_own, Dl.var_bor, Dl.var_odk, Dl.var_odt, Dl.var_bdk, Dl.var_bdt, Dl.of_s, Dl.of_n, Dl.of_if, Dl.o1_s, Dl.o2_s, Dl.oA_s, Dl.e_op1, Dl.e_op2, Dl.ev_0, Dl.ev_S, Dl.evB_ok, Dl.evB_ex, Dl.evB_bad, Dl.evB_if, Dl.evC_ok, Dl.evC_ex, Dl.evC_bad, Dl.evC_if, Dl.e_opA, Dl.oTru_s, Dl.oTru2_s, Dl.e_tru, Dl.e_and, Dl.e_or, Dl.e_not, Dl.e_ifE, Dl.kAnd_b, Dl.kOr_b, Dl.kNot_b, Dl.kIfE_b, Dl.e_andV, Dl.e_orV, Dl.oAndV_b, Dl.oOrV_b, Dl.e_notV, Dl.e_chain, Dl.chn_1, Dl.chn_2, Dl.och0_s, Dl.och_b, Dl.e_tup, Dl.e_lst, Dl.oTup_s, Dl.oLst_s, Dl.e_frz, Dl.oFz_s, Dl.pt_0, Dl.pt_1, Dl.pOf_i, Dl.sl2_s, Dl.sl1_s, Dl.sl3_s, Dl.e_sl, Dl.e_ofN, Dl.oN_d, Dl.oN_own, Dl.oN_odk, Dl.oN_odt, Dl.oN_bor, Dl.oN_bdk, Dl.oN_bdt, Dl.oN_r, Dl.oN_n, Dl.oN_if, Dl.e_call, Dl.cN_ok, Dl.cN_ex, Dl.cN_bad, Dl.cN_if, Dl.e_callA, Dl.cA1_s, Dl.cA2_r, Dl.cA2_x, Dl.cA2_b, Dl.cA2_if, Dl.di_0, Dl.di_d, Dl.so_d, Dl.so_s, Dl.di_s, Dl.di1_0, Dl.di1_d, Dl.at_d, Dl.at_s, Dl.arg1_o, Dl.arg1_l, Dl.arg1_b, Dl.ats_0, Dl.ats_S, Dl.oC_s, Dl.pu_0, Dl.pu_S, Dl.pu1_s, Dl.pu1_n, Dl.e_callV, Dl.cV1_s, Dl.cV2_s, Dl.s_seq, Dl.s_nx, Dl.s_bk, Dl.s_ct, Dl.s_expr, Dl.kX_e, Dl.s_asg, Dl.as1_s, Dl.s_ret, Dl.kRt_d, Dl.kRt_s, Dl.rt1_o, Dl.s_retNone, Dl.s_if, Dl.kIf_b, Dl.s_asgN, Dl.s_retN, Dl.aN_s, Dl.aN_r, Dl.rN_s, Dl.rN_r, Dl.aN_b, Dl.rN_b, Dl.aN_if, Dl.rN_if, Dl.s_asgG, Dl.g1_s, Dl.g2_s, Dl.aT_n, Dl.aT_p, Dl.aT_l, Dl.s_asgU, Dl.aU_s, Dl.aTs_0, Dl.aTs_n, Dl.s_asgR, Dl.gR_s, Dl.s_raise, Dl.rs1_s, Dl.s_try, Dl.tr1_r, Dl.tr1_n, Dl.tr1_x, Dl.tr1_b, Dl.tr1_if, Dl.un_r, Dl.un_x, Dl.un_b, Dl.un_if, Dl.e_isX, Dl.ix1_s, Dl.e_atX, Dl.ax1_s, Dl.e_newA, Dl.nA_ok, Dl.nA1_s, Dl.nA2_s, Dl.e_newL, Dl.nL_ok, Dl.nL_ex, Dl.nL_b, Dl.nL_if, Dl.nL1_s, Dl.e_me, Dl.me1_s, Dl.me3_s, Dl.e_ch, Dl.ch0_o, Dl.ch1_s, Dl.ch2_s, Dl.ch3_s, Dl.ch3_if, Dl.s_setIx, Dl.si1_s, Dl.si2_o, Dl.si3_s, Dl.si4_s, Dl.s_aug, Dl.ag1_d, Dl.ag2_s, Dl.ag3_s, Dl.s_for, Dl.fS_s, Dl.fS_if, Dl.fL_0, Dl.fL1_s, Dl.fL2_n, Dl.fL2_c, Dl.fL2_b, Dl.fL2_r, Dl.fL2_if, Dl.e_ixE, Dl.iE_l, Dl.iE_t, Dl.iE_s, Dl.iE2_b, Dl.e_ixR1, Dl.e_ixR2, Dl.kWh_t, Dl.kWh_f, Dl.wh1_n, Dl.wh1_c, Dl.wh1_b, Dl.wh1_r, Dl.e_backAt, Dl.bk1_b, Dl.bk_n, Dl.bk_b, Dl.bk_c, Dl.bk_r, Dl.bkO_s, Dl.bk_if, Dl.s_lock, Dl.lkS_o, Dl.lkS_d, Dl.lkS_b, Dl.bkN_s, Dl.bkN1_s, Dl.e_lockN, Dl.lkN_o, Dl.lkN_d, Dl.lkN_b, Dl.rst1_d, Dl.rst1_n, Dl.wp_0, Dl.wp_S, Dl.rd_0, Dl.rd_S, Dl.e_lcN, Dl.lcR1_s, Dl.lcR2_s, Dl.lc_0, Dl.lc1_s, Dl.lc2_b, Dl.lc3_s, Dl.lc4_s, Dl.ts_n, Dl.ts_s, Dl.fE_n, Dl.fE_r, Dl.fE_x, Dl.fE_b, Dl.fE_if, Dl.en_0, Dl.en_1, Dl.okT_d, Dl.okT_o, Dl.oRt_s, Dl.fE_of, Dl.kop1, Dl.kop2, Dl.kop2b, Dl.kopA, Dl.kTru, Dl.kFz, Dl.kAndV, Dl.kOrV, Dl.kch1, Dl.kch2, Dl.kTup, Dl.kLst, Dl.kSl, Dl.tdO, Dl.T.dat, Dl.fzO, Dl.kAs, Dl.kG, Dl.kU, Dl.kR, Dl.kRs, Dl.kMe, Dl.kMe2, Dl.kCh, Dl.kSi, Dl.kSi3, Dl.kAg, Dl.slO, Dl.uAt, Option.bind_some, Option.map_some, List.getElem?_cons_zero, List.getElem?_cons_succ, List.set_cons_zero, List.set_cons_succ, List.length_cons, List.length_nil, Bool.true_and, Bool.and_true, Bool.not_true, Bool.not_false, if_true, if_false, Bool.false_eq_true, decide_eq_true_eq, Nat.zero_add, Nat.reduceAdd, Nat.reduceLT, List.nil_append, List.cons_append, List.isEmpty_cons, List.isEmpty_nil, Dl.geq_i, Dl.it_l, Dl.gx_l, Dl.gx_t, Dl.at_0, Dl.at_1, Dl.at_2, Dl.at_3, Dl.at_4, Dl.at_5, Dl.at_6, Dl.at_7, Dl.at_8, Dl.at_9, Dl.tr_b, Dl.tr_i, Dl.tr_n, Dl.tr_l, Dl.tr_t, Dl.gadd_i, Dl.gsub_i, Dl.gneg_i, Dl.glt_i, Dl.gle_i, Dl.ggt_i, Dl.gge_i, Dl.gaddI_i, Dl.gne_i, Dl.glen_l, Dl.glen_t, Dl.gint_i, Dl.gmin2_i, Dl.gmax2_i, Dl.gmaxL_2, Dl.gminL_2, Dl.gabs_i, Dl.geq_s, Dl.gne_s, ht, g1, g2, g3, g4, h, askR]
theorem asked_4 {w : Str} {m : List T → Fo} {a b c d : D} (ht : tab w = some (4, [], m)) : m__law_asked [.d (fnD w), .d (.list [a, b, c, d])] = askR (m [.d a, .d b, .d c, .d d]) := by
  rw [u__law_asked]
  unfold b__law_asked
  have g1 : decide (((0 + 1 + 1 + 1 + 1 : Nat) : Int) < 3) = false := by decide
  have g2 : decide (((0 + 1 + 1 + 1 + 1 : Nat) : Int) = 1) = false := by decide
  have g3 : decide (((0 + 1 + 1 + 1 + 1 : Nat) : Int) < 5) = true := by decide
  have g4 : decide (((0 + 1 + 1 + 1 + 1 : Nat) : Int) = 3) = false := by decide
  cases h : m [.d a, .d b, .d c, .d d] with
  | ret t us => cases t <;> simp only [Dl.gd0, Dl.gdS, Dl.st0, Dl.stS, Dl.bd_ok, Dl.bd_ex, Dl.bd_bad, Dl.bd_if, Dl.bA_ok, Dl.bA_ex, Dl.bA_bad, Dl.bA_if, Dl.ou_ok, Dl.ou_ex, Dl.ou_bad, Dl.ou_if, Dl.sq_nx, Dl.sq_rt, Dl.sq_bk, Dl.sq_ct, Dl.sq_ex, Dl.sq_bad, Dl.sq_if, Dl.td_d, Dl.td_s, Dl.tds_0, Dl.tds_S, Dl.fz_d, Dl.fz_s, Dl.fzs_0, Dl.fzs_S, Dl.fz1_s, Dl.fz2_s, Dl.e_cst, Dl.e_var, Dl.var_d, Dl.var_own, Dl.var_bor, Dl.var_odk, Dl.var_odt, Dl.var_bdk, Dl.var_bdt, Dl.of_s, Dl.of_n, Dl.of_if, Dl.o1_s, Dl.o2_s, Dl.oA_s, Dl.e_op1, Dl.e_op2, Dl.ev_0, Dl.ev_S, Dl.evB_ok, Dl.evB_ex, Dl.evB_bad, Dl.evB_if, Dl.evC_ok, Dl.evC_ex, Dl.evC_bad, Dl.evC_if, Dl.e_opA, Dl.oTru_s, Dl.oTru2_s, Dl.e_tru, Dl.e_and, Dl.e_or, Dl.e_not, Dl.e_ifE, Dl.kAnd_b, Dl.kOr_b, Dl.kNot_b, Dl.kIfE_b, Dl.e_andV, Dl.e_orV, Dl.oAndV_b, Dl.oOrV_b, Dl.e_notV, Dl.e_chain, Dl.chn_1, Dl.chn_2, Dl.och0_s, Dl.och_b, Dl.e_tup, Dl.e_lst, Dl.oTup_s, Dl.oLst_s, Dl.e_frz, Dl.oFz_s, Dl.pt_0, Dl.pt_1, Dl.pOf_i, Dl.sl2_s, Dl.sl1_s, Dl.sl3_s, Dl.e_sl, Dl.e_ofN, Dl.oN_d, Dl.oN_own, Dl.oN_odk, Dl.oN_odt, Dl.oN_bor, Dl.oN_bdk, Dl.oN_bdt, Dl.oN_r, Dl.oN_n, Dl.oN_if, Dl.e_call, Dl.cN_ok, Dl.cN_ex, Dl.cN_bad, Dl.cN_if, Dl.e_callA, Dl.cA1_s, Dl.cA2_r, Dl.cA2_x, Dl.cA2_b, Dl.cA2_if, Dl.di_0, Dl.di_d, Dl.so_d, Dl.so_s, Dl.di_s, Dl.di1_0, Dl.di1_d, Dl.at_d, Dl.at_s, Dl.arg1_o, Dl.arg1_l, Dl.arg1_b, Dl.ats_0, Dl.ats_S, Dl.oC_s, Dl.pu_0, Dl.pu_S, Dl.pu1_s, Dl.pu1_n, Dl.e_callV, Dl.cV1_s, Dl.cV2_s, Dl.s_seq, Dl.s_nx, Dl.s_bk, Dl.s_ct, Dl.s_expr, Dl.kX_e, Dl.s_asg, Dl.as1_s, Dl.s_ret, Dl.kRt_d, Dl.kRt_s, Dl.rt1_o, Dl.s_retNone, Dl.s_if, Dl.kIf_b, Dl.s_asgN, Dl.s_retN, Dl.aN_s, Dl.aN_r, Dl.rN_s, Dl.rN_r, Dl.aN_b, Dl.rN_b, Dl.aN_if, Dl.rN_if, Dl.s_asgG, Dl.g1_s, Dl.g2_s, Dl.aT_n, Dl.aT_p, Dl.aT_l, Dl.s_asgU, Dl.aU_s, Dl.aTs_0, Dl.aTs_n, Dl.s_asgR, Dl.gR_s, Dl.s_raise, Dl.rs1_s, Dl.s_try, Dl.tr1_r, Dl.tr1_n, Dl.tr1_x, Dl.tr1_b, Dl.tr1_if, Dl.un_r, Dl.un_x, Dl.un_b, Dl.un_if, Dl.e_isX, Dl.ix1_s, Dl.e_atX, Dl.ax1_s, Dl.e_newA, Dl.nA_ok, Dl.nA1_s, Dl.nA2_s, Dl.e_newL, Dl.nL_ok, Dl.nL_ex, Dl.nL_b, Dl.nL_if, Dl.nL1_s, Dl.e_me, Dl.me1_s, Dl.me3_s, Dl.e_ch, Dl.ch0_o, Dl.ch1_s, Dl.ch2_s, Dl.ch3_s, Dl.ch3_if, Dl.s_setIx, Dl.si1_s, Dl.si2_o, Dl.si3_s, Dl.si4_s, Dl.s_aug, Dl.ag1_d, Dl.ag2_s, Dl.ag3_s, Dl.s_for, Dl.fS_s, Dl.fS_if, Dl.fL_0, Dl.fL1_s, Dl.fL2_n, Dl.fL2_c, Dl.fL2_b, Dl.fL2_r, Dl.fL2_if, Dl.e_ixE, Dl.iE_l, Dl.iE_t, Dl.iE_s, Dl.iE2_b, Dl.e_ixR1, Dl.e_ixR2, Dl.kWh_t, Dl.kWh_f, Dl.wh1_n, Dl.wh1_c, Dl.wh1_b, Dl.wh1_r, Dl.e_backAt, Dl.bk1_b, Dl.bk_n, Dl.bk_b, Dl.bk_c, Dl.bk_r, Dl.bkO_s, Dl.bk_if, Dl.s_lock, Dl.lkS_o, Dl.lkS_d, Dl.lkS_b, Dl.bkN_s, Dl.bkN1_s, Dl.e_lockN, Dl.lkN_o, Dl.lkN_d, Dl.lkN_b, Dl.rst1_d, Dl.rst1_n, Dl.wp_0, Dl.wp_S, Dl.rd_0, Dl.rd_S, Dl.e_lcN, Dl.lcR1_s, Dl.lcR2_s, Dl.lc_0, Dl.lc1_s, Dl.lc2_b, Dl.lc3_s, Dl.lc4_s, Dl.ts_n, Dl.ts_s, Dl.fE_n, Dl.fE_r, Dl.fE_x, Dl.fE_b, Dl.fE_if, Dl.en_0, Dl.en_1, Dl.okT_d, Dl.okT_o, Dl.oRt_s, Dl.fE_of, Dl.kop1, Dl.kop2, Dl.kop2b, Dl.kopA, Dl.kTru, Dl.kFz, Dl.kAndV, Dl.kOrV, Dl.kch1, Dl.kch2, Dl.kTup, Dl.kLst, Dl.kSl, Dl.tdO, Dl.T.dat, Dl.fzO, Dl.kAs, Dl.kG, Dl.kU, Dl.kR, Dl.kRs, Dl.kMe, Dl.kMe2, Dl.kCh, Dl.kSi, Dl.kSi3, Dl.kAg, Dl.slO, Dl.uAt, Option.bind_some, Option.map_some, List.getElem?_cons_zero, List.getElem?_cons_succ, List.set_cons_zero, List.set_cons_succ, List.length_cons, List.length_nil, Bool.true_and, Bool.and_true, Bool.not_true, Bool.not_false, if_true, if_false, Bool.false_eq_true, decide_eq_true_eq, Nat.zero_add, Nat.reduceAdd, Nat.reduceLT, List.nil_append, List.cons_append, List.isEmpty_cons, List.isEmpty_nil, Dl.geq_i, Dl.it_l, Dl.gx_l, Dl.gx_t, Dl.at_0, Dl.at_1, Dl.at_2, Dl.at_3, Dl.at_4, Dl.at_5, Dl.at_6, Dl.at_7, Dl.at_8, Dl.at_9, Dl.tr_b, Dl.tr_i, Dl.tr_n, Dl.tr_l, Dl.tr_t, Dl.gadd_i, Dl.gsub_i, Dl.gneg_i, Dl.glt_i, Dl.gle_i, Dl.ggt_i, Dl.gge_i, Dl.gaddI_i, Dl.gne_i, Dl.glen_l, Dl.glen_t, Dl.gint_i, Dl.gmin2_i, Dl.gmax2_i, Dl.gmaxL_2, Dl.gminL_2, Dl.gabs_i, Dl.geq_s, Dl.gne_s, ht, g1, g2, g3, g4, h, askR, askT]
  | ex c x us =>
    by_cases hc : c ∈ errs
    · simp only [Dl.gd0, Dl.gdS, Dl.st0, Dl.stS, Dl.bd_ok, Dl.bd_ex, Dl.bd_bad, Dl.bd_if, Dl.bA_ok, Dl.bA_ex, Dl.bA_bad, Dl.bA_if, Dl.ou_ok, Dl.ou_ex, Dl.ou_bad, Dl.ou_if, Dl.sq_nx, Dl.sq_rt, Dl.sq_bk, Dl.sq_ct, Dl.sq_ex, Dl.sq_bad, Dl.sq_if, Dl.td_d, Dl.td_s, Dl.tds_0, Dl.tds_S, Dl.fz_d, Dl.fz_s, Dl.fzs_0, Dl.fzs_S, Dl.fz1_s, Dl.fz2_s, Dl.e_cst, Dl.e_var, Dl.var_d, Dl.var_own, Dl.var_bor, Dl.var_odk, Dl.var_odt, Dl.var_bdk, Dl.var_bdt, Dl.of_s, Dl.of_n, Dl.of_if, Dl.o1_s, Dl.o2_s, Dl.oA_s, Dl.e_op1, Dl.e_op2, Dl.ev_0, Dl.ev_S, Dl.evB_ok, Dl.evB_ex, Dl.evB_bad, Dl.evB_if, Dl.evC_ok, Dl.evC_ex, Dl.evC_bad, Dl.evC_if, Dl.e_opA, Dl.oTru_s, Dl.oTru2_s, Dl.e_tru, Dl.e_and, Dl.e_or, Dl.e_not, Dl.e_ifE, Dl.kAnd_b, Dl.kOr_b, Dl.kNot_b, Dl.kIfE_b, Dl.e_andV, Dl.e_orV, Dl.oAndV_b, Dl.oOrV_b, Dl.e_notV, Dl.e_chain, Dl.chn_1, Dl.chn_2, Dl.och0_s, Dl.och_b, Dl.e_tup, Dl.e_lst, Dl.oTup_s, Dl.oLst_s, Dl.e_frz, Dl.oFz_s, Dl.pt_0, Dl.pt_1, Dl.pOf_i, Dl.sl2_s, Dl.sl1_s, Dl.sl3_s, Dl.e_sl, Dl.e_ofN, Dl.oN_d, Dl.oN_own, Dl.oN_odk, Dl.oN_odt, Dl.oN_bor, Dl.oN_bdk, Dl.oN_bdt, Dl.oN_r, Dl.oN_n, Dl.oN_if, Dl.e_call, Dl.cN_ok, Dl.cN_ex, Dl.cN_bad, Dl.cN_if, Dl.e_callA, Dl.cA1_s, Dl.cA2_r, Dl.cA2_x, Dl.cA2_b, Dl.cA2_if, Dl.di_0, Dl.di_d, Dl.so_d, Dl.so_s, Dl.di_s, Dl.di1_0, Dl.di1_d, Dl.at_d, Dl.at_s, Dl.arg1_o, Dl.arg1_l, Dl.arg1_b, Dl.ats_0, Dl.ats_S, Dl.oC_s, Dl.pu_0, Dl.pu_S, Dl.pu1_s, Dl.pu1_n, Dl.e_callV, Dl.cV1_s, Dl.cV2_s, Dl.s_seq, Dl.s_nx, Dl.s_bk, Dl.s_ct, Dl.s_expr, Dl.kX_e, Dl.s_asg, Dl.as1_s, Dl.s_ret, Dl.kRt_d, Dl.kRt_s, Dl.rt1_o, Dl.s_retNone, Dl.s_if, Dl.kIf_b, Dl.s_asgN, Dl.s_retN, Dl.aN_s, Dl.aN_r, Dl.rN_s, Dl.rN_r, Dl.aN_b, Dl.rN_b, Dl.aN_if, Dl.rN_if, Dl.s_asgG, Dl.g1_s, Dl.g2_s, Dl.aT_n, Dl.aT_p, Dl.aT_l, Dl.s_asgU, Dl.aU_s, Dl.aTs_0, Dl.aTs_n, Dl.s_asgR, Dl.gR_s, Dl.s_raise, Dl.rs1_s, Dl.s_try, Dl.tr1_r, Dl.tr1_n, Dl.tr1_x, Dl.tr1_b, Dl.tr1_if, Dl.un_r, Dl.un_x, Dl.un_b, Dl.un_if, Dl.e_isX, Dl.ix1_s, Dl.e_atX, Dl.ax1_s, Dl.e_newA, Dl.nA_ok, Dl.nA1_s, Dl.nA2_s, Dl.e_newL, Dl.nL_ok, Dl.nL_ex, Dl.nL_b, Dl.nL_if, Dl.nL1_s, Dl.e_me, Dl.me1_s, Dl.me3_s, Dl.e_ch, Dl.ch0_o, Dl.ch1_s, Dl.ch2_s, Dl.ch3_s, Dl.ch3_if, Dl.s_setIx, Dl.si1_s, Dl.si2_o, Dl.si3_s, Dl.si4_s, Dl.s_aug, Dl.ag1_d, Dl.ag2_s, Dl.ag3_s, Dl.s_for, Dl.fS_s, Dl.fS_if, Dl.fL_0, Dl.fL1_s, Dl.fL2_n, Dl.fL2_c, Dl.fL2_b, Dl.fL2_r, Dl.fL2_if, Dl.e_ixE, Dl.iE_l, Dl.iE_t, Dl.iE_s, Dl.iE2_b, Dl.e_ixR1, Dl.e_ixR2, Dl.kWh_t, Dl.kWh_f, Dl.wh1_n, Dl.wh1_c, Dl.wh1_b, Dl.wh1_r, Dl.e_backAt, Dl.bk1_b, Dl.bk_n, Dl.bk_b, Dl.bk_c, Dl.bk_r, Dl.bkO_s, Dl.bk_if, Dl.s_lock, Dl.lkS_o, Dl.lkS_d, Dl.lkS_b, Dl.bkN_s, Dl.bkN1_s, Dl.e_lockN, Dl.lkN_o, Dl.lkN_d, Dl.lkN_b, Dl.rst1_d, Dl.rst1_n, Dl.wp_0, Dl.wp_S, Dl.rd_0, Dl.rd_S, Dl.e_lcN, Dl.lcR1_s, Dl.lcR2_s, Dl.lc_0, Dl.lc1_s, Dl.lc2_b, Dl.lc3_s, Dl.lc4_s, Dl.ts_n, Dl.ts_s, Dl.fE_n, Dl.fE_r, Dl.fE_x, Dl.fE_b, Dl.fE_if, Dl.en_0, Dl.en_1, Dl.okT_d, Dl.okT_o, Dl.oRt_s, Dl.fE_of, Dl.kop1, Dl.kop2, Dl.kop2b, Dl.kopA, Dl.kTru, Dl.kFz, Dl.kAndV, Dl.kOrV, Dl.kch1, Dl.kch2, Dl.kTup, Dl.kLst, Dl.kSl, Dl.tdO, Dl.T.dat, Dl.fzO, Dl.kAs, Dl.kG, Dl.kU, Dl.kR, Dl.kRs, Dl.kMe, Dl.kMe2, Dl.kCh, Dl.kSi, Dl.kSi3, Dl.kAg, Dl.slO, Dl.uAt, Option.bind_some, Option.map_some, List.getElem?_cons_zero, List.getElem?_cons_succ, List.set_cons_zero, List.set_cons_succ, List.length_cons, List.length_nil, Bool.true_and, Bool.and_true, Bool.not_true, Bool.not_false, if_true, if_false, Bool.false_eq_true, decide_eq_true_eq, Nat.zero_add, Nat.reduceAdd, Nat.reduceLT, List.nil_append, List.cons_append, List.isEmpty_cons, List.isEmpty_nil, Dl.geq_i, Dl.it_l, Dl.gx_l, Dl.gx_t, Dl.at_0, Dl.at_1, Dl.at_2, Dl.at_3, Dl.at_4, Dl.at_5, Dl.at_6, Dl.at_7, Dl.at_8, Dl.at_9, Dl.tr_b, Dl.tr_i, Dl.tr_n, Dl.tr_l, Dl.tr_t, Dl.gadd_i, Dl.gsub_i, Dl.gneg_i, Dl.glt_i, Dl.gle_i, Dl.ggt_i, Dl.gge_i, Dl.gaddI_i, Dl.gne_i, Dl.glen_l, Dl.glen_t, Dl.gint_i, Dl.gmin2_i, Dl.gmax2_i, Dl.gmaxL_2, Dl.gminL_2, Dl.gabs_i, Dl.geq_s, Dl.gne_s, ht, g1, g2, g3, g4, h, askR, hc]
      cases hw : m__law_word 0 0 c [T.d (excD 0 0 c x)] with
      | ret t us => simp only [Dl.gd0, Dl.gdS, Dl.st0, Dl.stS, Dl.bd_ok, Dl.bd_ex, Dl.bd_bad, Dl.bd_if, Dl.bA_ok, Dl.bA_ex, Dl.bA_bad, Dl.bA_if, Dl.ou_ok, Dl.ou_ex, Dl.ou_bad, Dl.ou_if, Dl.sq_nx, Dl.sq_rt, Dl.sq_bk, Dl.sq_ct, Dl.sq_ex, Dl.sq_bad, Dl.sq_if, Dl.td_d, Dl.td_s, Dl.tds_0, Dl.tds_S, Dl.fz_d, Dl.fz_s, Dl.fzs_0, Dl.fzs_S, Dl.fz1_s, Dl.fz2_s, Dl.e_cst, Dl.e_var, Dl.var_d, Dl.var_own, Dl.var_bor, Dl.var_odk, Dl.var_odt, Dl.var_bdk, Dl.var_bdt, Dl.of_s, Dl.of_n, Dl.of_if, Dl.o1_s, Dl.o2_s, Dl.oA_s, Dl.e_op1, Dl.e_op2, Dl.ev_0, Dl.ev_S, Dl.evB_ok, Dl.evB_ex, Dl.evB_bad, Dl.evB_if, Dl.evC_ok, Dl.evC_ex, Dl.evC_bad, Dl.evC_if, Dl.e_opA, Dl.oTru_s, Dl.oTru2_s, Dl.e_tru, Dl.e_and, Dl.e_or, Dl.e_not, Dl.e_ifE, Dl.kAnd_b, Dl.kOr_b, Dl.kNot_b, Dl.kIfE_b, Dl.e_andV, Dl.e_orV, Dl.oAndV_b, Dl.oOrV_b, Dl.e_notV, Dl.e_chain, Dl.chn_1, Dl.chn_2, Dl.och0_s, Dl.och_b, Dl.e_tup, Dl.e_lst, Dl.oTup_s, Dl.oLst_s, Dl.e_frz, Dl.oFz_s, Dl.pt_0, Dl.pt_1, Dl.pOf_i, Dl.sl2_s, Dl.sl1_s, Dl.sl3_s, Dl.e_sl, Dl.e_ofN, Dl.oN_d, Dl.oN_own, Dl.oN_odk, Dl.oN_odt, Dl.oN_bor, Dl.oN_bdk, Dl.oN_bdt, Dl.oN_r, Dl.oN_n, Dl.oN_if, Dl.e_call, Dl.cN_ok, Dl.cN_ex, Dl.cN_bad, Dl.cN_if, Dl.e_callA, Dl.cA1_s, Dl.cA2_r, Dl.cA2_x, Dl.cA2_b, Dl.cA2_if, Dl.di_0, Dl.di_d, Dl.so_d, Dl.so_s, Dl.di_s, Dl.di1_0, Dl.di1_d, Dl.at_d, Dl.at_s, Dl.arg1_o, Dl.arg1_l, Dl.arg1_b, Dl.ats_0, Dl.ats_S, Dl.oC_s, Dl.pu_0, Dl.pu_S, Dl.pu1_s, Dl.pu1_n, Dl.e_callV, Dl.cV1_s, Dl.cV2_s, Dl.s_seq, Dl.s_nx, Dl.s_bk, Dl.s_ct, Dl.s_expr, Dl.kX_e, Dl.s_asg, Dl.as1_s, Dl.s_ret, Dl.kRt_d, Dl.kRt_s, Dl.rt1_o, Dl.s_retNone, Dl.s_if, Dl.kIf_b, Dl.s_asgN, Dl.s_retN, Dl.aN_s, Dl.aN_r, Dl.rN_s, Dl.rN_r, Dl.aN_b, Dl.rN_b, Dl.aN_if, Dl.rN_if, Dl.s_asgG, Dl.g1_s, Dl.g2_s, Dl.aT_n, Dl.aT_p, Dl.aT_l, Dl.s_asgU, Dl.aU_s, Dl.aTs_0, Dl.aTs_n, Dl.s_asgR, Dl.gR_s, Dl.s_raise, Dl.rs1_s, Dl.s_try, Dl.tr1_r, Dl.tr1_n, Dl.tr1_x, Dl.tr1_b, Dl.tr1_if, Dl.un_r, Dl.un_x, Dl.un_b, Dl.un_if, Dl.e_isX, Dl.ix1_s, Dl.e_atX, Dl.ax1_s, Dl.e_newA, Dl.nA_ok, Dl.nA1_s, Dl.nA2_s, Dl.e_newL, Dl.nL_ok, Dl.nL_ex, Dl.nL_b, Dl.nL_if, Dl.nL1_s, Dl.e_me, Dl.me1_s, Dl.me3_s, Dl.e_ch, Dl.ch0_o, Dl.ch1_s, Dl.ch2_s, Dl.ch3_s, Dl.ch3_if, Dl.s_setIx, Dl.si1_s, Dl.si2_o, Dl.si3_s, Dl.si4_s, Dl.s_aug, Dl.ag1_d, Dl.ag2_s, Dl.ag3_s, Dl.s_for, Dl.fS_s, Dl.fS_if, Dl.fL_0, Dl.fL1_s, Dl.fL2_n, Dl.fL2_c, Dl.fL2_b, Dl.fL2_r, Dl.fL2_if, Dl.e_ixE, Dl.iE_l, Dl.iE_t, Dl.iE_s, Dl.iE2_b, Dl.e_ixR1, Dl.e_ixR2, Dl.kWh_t, Dl.kWh_f, Dl.wh1_n, Dl.wh1_c, Dl.wh1_b, Dl.wh1_r, Dl.e_backAt, Dl.bk1_b, Dl.bk_n, Dl.bk_b, Dl.bk_c, Dl.bk_r, Dl.bkO_s, Dl.bk_if, Dl.s_lock, Dl.lkS_o, Dl.lkS_d, Dl.lkS_b, Dl.bkN_s, Dl.bkN1_s, Dl.e_lockN, Dl.lkN_o, Dl.lkN_d, Dl.lkN_b, Dl.rst1_d, Dl.rst1_n, Dl.wp_0, Dl.wp_S, Dl.rd_0, Dl.rd_S, Dl.e_lcN, Dl.lcR1_s, Dl.lcR2_s, Dl.lc_0, Dl.lc1_s, Dl.lc2_b, Dl.lc3_s, Dl.lc4_s, Dl.ts_n, Dl.ts_s, Dl.fE_n, Dl.fE_r, Dl.fE_x, Dl.fE_b, Dl.fE_if, Dl.en_0, Dl.en_1, Dl.okT_d, Dl.okT_o, Dl.oRt_s, Dl.fE_of, Dl.kop1, Dl.kop2, Dl.kop2b, Dl.kopA, Dl.kTru, Dl.kFz, Dl.kAndV, Dl.kOrV, Dl.kch1, Dl.kch2, Dl.kTup, Dl.kLst, Dl.kSl, Dl.tdO, Dl.T.dat, Dl.fzO, Dl.kAs, Dl.kG, Dl.kU, Dl.kR, Dl.kRs, Dl.kMe, Dl.kMe2, Dl.kCh, Dl.kSi, Dl.kSi3, Dl.kAg, Dl.slO, Dl.uAt, Option.bind_some, Option.map_some, List.getElem?_cons_zero, List.getElem?_cons_succ, List.set_cons_zero, List.set_cons_succ, List.length_cons, List.length_nil, Bool.true_and, Bool.and_true, Bool.not_true, Bool.not_false, if_true, if_false, Bool.false_eq_true, decide_eq_true_eq, Nat.zero_add, Nat.reduceAdd, Nat.reduceLT, List.nil_append, List.cons_append, List.isEmpty_cons, List.isEmpty_nil, Dl.geq_i, Dl.it_l, Dl.gx_l, Dl.gx_t, Dl.at_0, Dl.at_1, Dl.at_2, Dl.at_3, Dl.at_4, Dl.at_5, Dl.at_6, Dl.at_7, Dl.at_8, Dl.at_9, Dl.tr_b, Dl.tr_i, Dl.tr_n, Dl.tr_l, Dl.tr_t, Dl.gadd_i, Dl.gsub_i, Dl.gneg_i, Dl.glt_i, Dl.gle_i, Dl.ggt_i, Dl.gge_i, Dl.gaddI_i, Dl.gne_i, Dl.glen_l, Dl.glen_t, Dl.gint_i, Dl.gmin2_i, Dl.gmax2_i, Dl.gmaxL_2, Dl.gminL_2, Dl.gabs_i, Dl.geq_s, Dl.gne_s, wordR]
      | ex c2 x2 us => simp only [Dl.gd0, Dl.gdS, Dl.st0, Dl.stS, Dl.bd_ok, Dl.bd_ex, Dl.bd_bad, Dl.bd_if, Dl.bA_ok, Dl.bA_ex, Dl.bA_bad, Dl.bA_if, Dl.ou_ok, Dl.ou_ex, Dl.ou_bad, Dl.ou_if, Dl.sq_nx, Dl.sq_rt, Dl.sq_bk, Dl.sq_ct, Dl.sq_ex, Dl.sq_bad, Dl.sq_if, Dl.td_d, Dl.td_s, Dl.tds_0, Dl.tds_S, Dl.fz_d, Dl.fz_s, Dl.fzs_0, Dl.fzs_S, Dl.fz1_s, Dl.fz2_s, Dl.e_cst, Dl.e_var, Dl.var_d, Dl.var_own, Dl.var_bor, Dl.var_odk, Dl.var_odt, Dl.var_bdk, Dl.var_bdt, Dl.of_s, Dl.of_n, Dl.of_if, Dl.o1_s, Dl.o2_s, Dl.oA_s, Dl.e_op1, Dl.e_op2, Dl.ev_0, Dl.ev_S, Dl.evB_ok, Dl.evB_ex, Dl.evB_bad, Dl.evB_if, Dl.evC_ok, Dl.evC_ex, Dl.evC_bad, Dl.evC_if, Dl.e_opA, Dl.oTru_s, Dl.oTru2_s, Dl.e_tru, Dl.e_and, Dl.e_or, Dl.e_not, Dl.e_ifE, Dl.kAnd_b, Dl.kOr_b, Dl.kNot_b, Dl.kIfE_b, Dl.e_andV, Dl.e_orV, Dl.oAndV_b, Dl.oOrV_b, Dl.e_notV, Dl.e_chain, Dl.chn_1, Dl.chn_2, Dl.och0_s, Dl.och_b, Dl.e_tup, Dl.e_lst, Dl.oTup_s, Dl.oLst_s, Dl.e_frz, Dl.oFz_s, Dl.pt_0, Dl.pt_1, Dl.pOf_i, Dl.sl2_s, Dl.sl1_s, Dl.sl3_s, Dl.e_sl, Dl.e_ofN, Dl.oN_d, Dl.oN_own, Dl.oN_odk, Dl.oN_odt, Dl.oN_bor, Dl.oN_bdk, Dl.oN_bdt, Dl.oN_r, Dl.oN_n, Dl.oN_if, Dl.e_call, Dl.cN_ok, Dl.cN_ex, Dl.cN_bad, Dl.cN_if, Dl.e_callA, Dl.cA1_s, Dl.cA2_r, Dl.cA2_x, Dl.cA2_b, Dl.cA2_if, Dl.di_0, Dl.di_d, Dl.so_d, Dl.so_s, Dl.di_s, Dl.di1_0, Dl.di1_d, Dl.at_d, Dl.at_s, Dl.arg1_o, Dl.arg1_l, Dl.arg1_b, Dl.ats_0, Dl.ats_S, Dl.oC_s, Dl.pu_0, Dl.pu_S, Dl.pu1_s, Dl.pu1_n, Dl.e_callV, Dl.cV1_s, Dl.cV2_s, Dl.s_seq, Dl.s_nx, Dl.s_bk, Dl.s_ct, Dl.s_expr, Dl.kX_e, Dl.s_asg, Dl.as1_s, Dl.s_ret, Dl.kRt_d, Dl.kRt_s, Dl.rt1_o, Dl.s_retNone, Dl.s_if, Dl.kIf_b, Dl.s_asgN, Dl.s_retN, Dl.aN_s, Dl.aN_r, Dl.rN_s, Dl.rN_r, Dl.aN_b, Dl.rN_b, Dl.aN_if, Dl.rN_if, Dl.s_asgG, Dl.g1_s, Dl.g2_s, Dl.aT_n, Dl.aT_p, Dl.aT_l, Dl.s_asgU, Dl.aU_s, Dl.aTs_0, Dl.aTs_n, Dl.s_asgR, Dl.gR_s, Dl.s_raise, Dl.rs1_s, Dl.s_try, Dl.tr1_r, Dl.tr1_n, Dl.tr1_x, Dl.tr1_b, Dl.tr1_if, Dl.un_r, Dl.un_x, Dl.un_b, Dl.un_if, Dl.e_isX, Dl.ix1_s, Dl.e_atX, Dl.ax1_s, Dl.e_newA, Dl.nA_ok, Dl.nA1_s, Dl.nA2_s, Dl.e_newL, Dl.nL_ok, Dl.nL_ex, Dl.nL_b, Dl.nL_if, Dl.nL1_s, Dl.e_me, Dl.me1_s, Dl.me3_s, Dl.e_ch, Dl.ch0_o, Dl.ch1_s, Dl.ch2_s, Dl.ch3_s, Dl.ch3_if, Dl.s_setIx, Dl.si1_s, Dl.si2_o, Dl.si3_s, Dl.si4_s, Dl.s_aug, Dl.ag1_d, Dl.ag2_s, Dl.ag3_s, Dl.s_for, Dl.fS_s, Dl.fS_if, Dl.fL_0, Dl.fL1_s, Dl.fL2_n, Dl.fL2_c, Dl.fL2_b, Dl.fL2_r, Dl.fL2_if, Dl.e_ixE, Dl.iE_l, Dl.iE_t, Dl.iE_s, Dl.iE2_b, Dl.e_ixR1, Dl.e_ixR2, Dl.kWh_t, Dl.kWh_f, Dl.wh1_n, Dl.wh1_c, Dl.wh1_b, Dl.wh1_r, Dl.e_backAt, Dl.bk1_b, Dl.bk_n, Dl.bk_b, Dl.bk_c, Dl.bk_r, Dl.bkO_s, Dl.bk_if, Dl.s_lock, Dl.lkS_o, Dl.lkS_d, Dl.lkS_b, Dl.bkN_s, Dl.bkN1_s, Dl.e_lockN, Dl.lkN_o, Dl.lkN_d, Dl.lkN_b, Dl.rst1_d, Dl.rst1_n, Dl.wp_0, Dl.wp_S, Dl.rd_0, Dl.rd_S, Dl.e_lcN, Dl.lcR1_s, Dl.lcR2_s, Dl.lc_0, Dl.lc1_s, Dl.lc2_b, Dl.lc3_s, Dl.lc4_s, Dl.ts_n, Dl.ts_s, Dl.fE_n, Dl.fE_r, Dl.fE_x, Dl.fE_b, Dl.fE_if, Dl.en_0, Dl.en_1, Dl.okT_d, Dl.okT_o, Dl.oRt_s, Dl.fE_of, Dl.kop1, Dl.kop2, Dl.kop2b, Dl.kopA, Dl.kTru, Dl.kFz, Dl.kAndV, Dl.kOrV, Dl.kch1, Dl.kch2, Dl.kTup, Dl.kLst, Dl.kSl, Dl.tdO, Dl.T.dat, Dl.fzO, Dl.kAs, Dl.kG, Dl.kU, Dl.kR, Dl.kRs, Dl.kMe, Dl.kMe2, Dl.kCh, Dl.kSi, Dl.kSi3, Dl.kAg, Dl.slO, Dl.uAt, Option.bind_some, Option.map_some, List.getElem?_cons_zero, List.getElem?_cons_succ, List.set_cons_zero, List.set_cons_succ, List.length_cons, List.length_nil, Bool.true_and, Bool.and_true, Bool.not_true, Bool.not_false, if_true, if_false, Bool.false_eq_true, decide_eq_true_eq, Nat.zero_add, Nat.reduceAdd, Nat.reduceLT, List.nil_append, List.cons_append, List.isEmpty_cons, List.isEmpty_nil, Dl.geq_i, Dl.it_l, Dl.gx_l, Dl.gx_t, Dl.at_0, Dl.at_1, Dl.at_2, Dl.at_3, Dl.at_4, Dl.at_5, Dl.at_6, Dl.at_7, Dl.at_8, Dl.at_9, Dl.tr_b, Dl.tr_i, Dl.tr_n, Dl.tr_l, Dl.tr_t, Dl.gadd_i, Dl.gsub_i, Dl.gneg_i, Dl.glt_i, Dl.gle_i, Dl.ggt_i, Dl.gge_i, Dl.gaddI_i, Dl.gne_i, Dl.glen_l, Dl.glen_t, Dl.gint_i, Dl.gmin2_i, Dl.gmax2_i, Dl.gmaxL_2, Dl.gminL_2, Dl.gabs_i, Dl.geq_s, Dl.gne_s, wordR]
      | bad => simp only [Dl.gd0, Dl.gdS, Dl.st0, Dl.stS, Dl.bd_ok, Dl.bd_ex, Dl.bd_bad, Dl.bd_if, Dl.bA_ok, Dl.bA_ex, Dl.bA_bad, Dl.bA_if, Dl.ou_ok, Dl.ou_ex, Dl.ou_bad, Dl.ou_if, Dl.sq_nx, Dl.sq_rt, Dl.sq_bk, Dl.sq_ct, Dl.sq_ex, Dl.sq_bad, Dl.sq_if, Dl.td_d, Dl.td_s, Dl.tds_0, Dl.tds_S, Dl.fz_d, Dl.fz_s, Dl.fzs_0, Dl.fzs_S, Dl.fz1_s, Dl.fz2_s, Dl.e_cst, Dl.e_var, Dl.var_d, Dl.var_own, Dl.var_bor, Dl.var_odk, Dl.var_odt, Dl.var_bdk, Dl.var_bdt, Dl.of_s, Dl.of_n, Dl.of_if, Dl.o1_s, Dl.o2_s, Dl.oA_s, Dl.e_op1, Dl.e_op2, Dl.ev_0, Dl.ev_S, Dl.evB_ok, Dl.evB_ex, Dl.evB_bad, Dl.evB_if, Dl.evC_ok, Dl.evC_ex, Dl.evC_bad, Dl.evC_if, Dl.e_opA, Dl.oTru_s, Dl.oTru2_s, Dl.e_tru, Dl.e_and, Dl.e_or, Dl.e_not, Dl.e_ifE, Dl.kAnd_b, Dl.kOr_b, Dl.kNot_b, Dl.kIfE_b, Dl.e_andV, Dl.e_orV, Dl.oAndV_b, Dl.oOrV_b, Dl.e_notV, Dl.e_chain, Dl.chn_1, Dl.chn_2, Dl.och0_s, Dl.och_b, Dl.e_tup, Dl.e_lst, Dl.oTup_s, Dl.oLst_s, Dl.e_frz, Dl.oFz_s, Dl.pt_0, Dl.pt_1, Dl.pOf_i, Dl.sl2_s, Dl.sl1_s, Dl.sl3_s, Dl.e_sl, Dl.e_ofN, Dl.oN_d, Dl.oN_own, Dl.oN_odk, Dl.oN_odt, Dl.oN_bor, Dl.oN_bdk, Dl.oN_bdt, Dl.oN_r, Dl.oN_n, Dl.oN_if, Dl.e_call, Dl.cN_ok, Dl.cN_ex, Dl.cN_bad, Dl.cN_if, Dl.e_callA, Dl.cA1_s, Dl.cA2_r, Dl.cA2_x, Dl.cA2_b, Dl.cA2_if, Dl.di_0, Dl.di_d, Dl.so_d, Dl.so_s, Dl.di_s, Dl.di1_0, Dl.di1_d, Dl.at_d, Dl.at_s, Dl.arg1_o, Dl.arg1_l, Dl.arg1_b, Dl.ats_0, Dl.ats_S, Dl.oC_s, Dl.pu_0, Dl.pu_S, Dl.pu1_s, Dl.pu1_n, Dl.e_callV, Dl.cV1_s, Dl.cV2_s, Dl.s_seq, Dl.s_nx, Dl.s_bk, Dl.s_ct, Dl.s_expr, Dl.kX_e, Dl.s_asg, Dl.as1_s, Dl.s_ret, Dl.kRt_d, Dl.kRt_s, Dl.rt1_o, Dl.s_retNone, Dl.s_if, Dl.kIf_b, Dl.s_asgN, Dl.s_retN, Dl.aN_s, Dl.aN_r, Dl.rN_s, Dl.rN_r, Dl.aN_b, Dl.rN_b, Dl.aN_if, Dl.rN_if, Dl.s_asgG, Dl.g1_s, Dl.g2_s, Dl.aT_n, Dl.aT_p, Dl.aT_l, Dl.s_asgU, Dl.aU_s, Dl.aTs_0, Dl.aTs_n, Dl.s_asgR, Dl.gR_s, Dl.s_raise, Dl.rs1_s, Dl.s_try, Dl.tr1_r, Dl.tr1_n, Dl.tr1_x, Dl.tr1_b, Dl.tr1_if, Dl.un_r, Dl.un_x, Dl.un_b, Dl.un_if, Dl.e_isX, Dl.ix1_s, Dl.e_atX, Dl.ax1_s, Dl.e_newA, Dl.nA_ok, Dl.nA1_s, Dl.nA2_s, Dl.e_newL, Dl.nL_ok, Dl.nL_ex, Dl.nL_b, Dl.nL_if, Dl.nL1_s, Dl.e_me, Dl.me1_s, Dl.me3_s, Dl.e_ch, Dl.ch0_o, Dl.ch1_s, Dl.ch2_s, Dl.ch3_s, Dl.ch3_if, Dl.s_setIx, Dl.si1_s, Dl.si2_o, Dl.si3_s, Dl.si4_s, Dl.s_aug, Dl.ag1_d, Dl.ag2_s, Dl.ag3_s, Dl.s_for, Dl.fS_s, Dl.fS_if, Dl.fL_0, Dl.fL1_s, Dl.fL2_n, Dl.fL2_c, Dl.fL2_b, Dl.fL2_r, Dl.fL2_if, Dl.e_ixE, Dl.iE_l, Dl.iE_t, Dl.iE_s, Dl.iE2_b, Dl.e_ixR1, Dl.e_ixR2, Dl.kWh_t, Dl.kWh_f, Dl.wh1_n, Dl.wh1_c, Dl.wh1_b, Dl.wh1_r, Dl.e_backAt, Dl.bk1_b, Dl.bk_n, Dl.bk_b, Dl.bk_c, Dl.bk_r, Dl.bkO_s, Dl.bk_if, Dl.s_lock, Dl.lkS_o, Dl.lkS_d, Dl.lkS_b, Dl.bkN_s, Dl.bkN1_s, Dl.e_lockN, Dl.lkN_o, Dl.lkN_d, Dl.lkN_b, Dl.rst1_d, Dl.rst1_n, Dl.wp_0, Dl.wp_S, Dl.rd_0, Dl.rd_S, Dl.e_lcN, Dl.lcR1_s, Dl.lcR2_s, Dl.lc_0, Dl.lc1_s, Dl.lc2_b, Dl.lc3_s, Dl.lc4_s, Dl.ts_n, Dl.ts_s, Dl.fE_n, Dl.fE_r, Dl.fE_x, Dl.fE_b, Dl.fE_if, Dl.en_0, Dl.en_1, Dl.okT_d, Dl.okT_o, Dl.oRt_s, Dl.fE_of, Dl.kop1, Dl.kop2, Dl.kop2b, Dl.kopA, Dl.kTru, Dl.kFz, Dl.kAndV, Dl.kOrV, Dl.kch1, Dl.kch2, Dl.kTup, Dl.kLst, Dl.kSl, Dl.tdO, Dl.T.dat, Dl.fzO, Dl.kAs, Dl.kG, Dl.kU, Dl.kR, Dl.kRs, Dl.kMe, Dl.kMe2, Dl.kCh, Dl.kSi, Dl.kSi3, Dl.kAg, Dl.slO, Dl.uAt, Option.bind_some, Option.map_some, List.getElem?_cons_zero, List.getElem?_cons_succ, List.set_cons_zero, List.set_cons_succ, List.length_cons, List.length_nil, Bool.true_and, Bool.and_true, Bool.not_true, Bool.not_false, if_true, if_false, Bool.false_eq_true, decide_eq_true_eq, Nat.zero_add, Nat.reduceAdd, Nat.reduceLT, List.nil_append, List.cons_append, List.isEmpty_cons, List.isEmpty_nil, Dl.geq_i, Dl.it_l, Dl.gx_l, Dl.gx_t, Dl.at_0, Dl.at_1, Dl.at_2, Dl.at_3, Dl.at_4, Dl.at_5, Dl.at_6, Dl.at_7, Dl.at_8, Dl.at_9, Dl.tr_b, Dl.tr_i, Dl.tr_n, Dl.tr_l, Dl.tr_t, Dl.gadd_i, Dl.gsub_i, Dl.gneg_i, Dl.glt_i, Dl.gle_i, Dl.ggt_i, Dl.gge_i, Dl.gaddI_i, Dl.gne_i, Dl.glen_l, Dl.glen_t, Dl.gint_i, Dl.gmin2_i, Dl.gmax2_i, Dl.gmaxL_2, Dl.gminL_2, Dl.gabs_i, Dl.geq_s, Dl.gne_s, wordR]
    · simp only [Dl.gd0, Dl.gdS, Dl.st0, Dl.stS, Dl.bd_ok, Dl.bd_ex, Dl.bd_bad, Dl.bd_if, Dl.bA_ok, Dl.bA_ex, Dl.bA_bad, Dl.bA_if, Dl.ou_ok, Dl.ou_ex, Dl.ou_bad, Dl.ou_if, Dl.sq_nx, Dl.sq_rt, Dl.sq_bk, Dl.sq_ct, Dl.sq_ex, Dl.sq_bad, Dl.sq_if, Dl.td_d, Dl.td_s, Dl.tds_0, Dl.tds_S, Dl.fz_d, Dl.fz_s, Dl.fzs_0, Dl.fzs_S, Dl.fz1_s, Dl.fz2_s, Dl.e_cst, Dl.e_var, Dl.var_d, Dl.var_own, Dl.var_bor, Dl.var_odk, Dl.var_odt, Dl.var_bdk, Dl.var_bdt, Dl.of_s, Dl.of_n, Dl.of_if, Dl.o1_s, Dl.o2_s, Dl.oA_s, Dl.e_op1, Dl.e_op2, Dl.ev_0, Dl.ev_S, Dl.evB_ok, Dl.evB_ex, Dl.evB_bad, Dl.evB_if, Dl.evC_ok, Dl.evC_ex, Dl.evC_bad, Dl.evC_if, Dl.e_opA, Dl.oTru_s, Dl.oTru2_s, Dl.e_tru, Dl.e_and, Dl.e_or, Dl.e_not, Dl.e_ifE, Dl.kAnd_b, Dl.kOr_b, Dl.kNot_b, Dl.kIfE_b, Dl.e_andV, Dl.e_orV, Dl.oAndV_b, Dl.oOrV_b, Dl.e_notV, Dl.e_chain, Dl.chn_1, Dl.chn_2, Dl.och0_s, Dl.och_b, Dl.e_tup, Dl.e_lst, Dl.oTup_s, Dl.oLst_s, Dl.e_frz, Dl.oFz_s, Dl.pt_0, Dl.pt_1, Dl.pOf_i, Dl.sl2_s, Dl.sl1_s, Dl.sl3_s, Dl.e_sl, Dl.e_ofN, Dl.oN_d, Dl.oN_own, Dl.oN_odk, Dl.oN_odt, Dl.oN_bor, Dl.oN_bdk, Dl.oN_bdt, Dl.oN_r, Dl.oN_n, Dl.oN_if, Dl.e_call, Dl.cN_ok, Dl.cN_ex, Dl.cN_bad, Dl.cN_if, Dl.e_callA, Dl.cA1_s, Dl.cA2_r, Dl.cA2_x, Dl.cA2_b, Dl.cA2_if, Dl.di_0, Dl.di_d, Dl.so_d, Dl.so_s, Dl.di_s, Dl.di1_0, Dl.di1_d, Dl.at_d, Dl.at_s, Dl.arg1_o, Dl.arg1_l, Dl.arg1_b, Dl.ats_0, Dl.ats_S, Dl.oC_s, Dl.pu_0, Dl.pu_S, Dl.pu1_s, Dl.pu1_n, Dl.e_callV, Dl.cV1_s, Dl.cV2_s, Dl.s_seq, Dl.s_nx, Dl.s_bk, Dl.s_ct, Dl.s_expr, Dl.kX_e, Dl.s_asg, Dl.as1_s, Dl.s_ret, Dl.kRt_d, Dl.kRt_s, Dl.rt1_o, Dl.s_retNone, Dl.s_if, Dl.kIf_b, Dl.s_asgN, Dl.s_retN, Dl.aN_s, Dl.aN_r, Dl.rN_s, Dl.rN_r, Dl.aN_b, Dl.rN_b, Dl.aN_if, Dl.rN_if, Dl.s_asgG, Dl.g1_s, Dl.g2_s, Dl.aT_n, Dl.aT_p, Dl.aT_l, Dl.s_asgU, Dl.aU_s, Dl.aTs_0, Dl.aTs_n, Dl.s_asgR, Dl.gR_s, Dl.s_raise, Dl.rs1_s, Dl.s_try, Dl.tr1_r, Dl.tr1_n, Dl.tr1_x, Dl.tr1_b, Dl.tr1_if, Dl.un_r, Dl.un_x, Dl.un_b, Dl.un_if, Dl.e_isX, Dl.ix1_s, Dl.e_atX, Dl.ax1_s, Dl.e_newA, Dl.nA_ok, Dl.nA1_s, Dl.nA2_s, Dl.e_newL, Dl.nL_ok, Dl.nL_ex, Dl.nL_b, Dl.nL_if, Dl.nL1_s, Dl.e_me, Dl.me1_s, Dl.me3_s, Dl.e_ch, Dl.ch0_o, Dl.ch1_s, Dl.ch2_s, Dl.ch3_s, Dl.ch3_if, Dl.s_setIx, Dl.si1_s, Dl.si2_o, Dl.si3_s, Dl.si4_s, Dl.s_aug, Dl.ag1_d, Dl.ag2_s, Dl.ag3_s, Dl.s_for, Dl.fS_s, Dl.fS_if, Dl.fL_0, Dl.fL1_s, Dl.fL2_n, Dl.fL2_c, Dl.fL2_b, Dl.fL2_r, Dl.fL2_if, Dl.e_ixE, Dl.iE_l, Dl.iE_t, Dl.iE_s, Dl.iE2_b, Dl.e_ixR1, Dl.e_ixR2, Dl.kWh_t, Dl.kWh_f, Dl.wh1_n, Dl.wh1_c, Dl.wh1_b, Dl.wh1_r, Dl.e_backAt, Dl.bk1_b, Dl.bk_n, Dl.bk_b, Dl.bk_c, Dl.bk_r, Dl.bkO_s, Dl.bk_if, Dl.s_lock, Dl.lkS_o, Dl.lkS_d, Dl.lkS_b, Dl.bkN_s, Dl.bkN1_s, Dl.e_lockN, Dl.lkN_o, Dl.lkN_d, Dl.lkN_b, Dl.rst1_d, Dl.rst1_n, Dl.wp_0, Dl.wp_S, Dl.rd_0, Dl.rd_S, Dl.e_lcN, Dl.lcR1_s, Dl.lcR2_s, Dl.lc_0, Dl.lc1_s, Dl.lc2_b, Dl.lc3_s, Dl.lc4_s, Dl.ts_n, Dl.ts_s, Dl.fE_n, Dl.fE_r, Dl.fE_x, Dl.fE_b, Dl.fE_if, Dl.en_0, Dl.en_1, Dl.okT_d, Dl.okT_o, Dl.oRt_s, Dl.fE_of, Dl.kop1, Dl.kop2, Dl.kop2b, Dl.kopA, Dl.kTru, Dl.kFz, Dl.kAndV, Dl.kOrV, Dl.kch1, Dl.kch2, Dl.kTup, Dl.kLst, Dl.kSl, Dl.tdO, Dl.T.dat, Dl.fzO, Dl.kAs, Dl.kG, Dl.kU, Dl.kR, Dl.kRs, Dl.kMe, Dl.kMe2, Dl.kCh, Dl.kSi, Dl.kSi3, Dl.kAg, Dl.slO, Dl.uAt, Option.bind_some, Option.map_some, List.getElem?_cons_zero, List.getElem?_cons_succ, List.set_cons_zero, List.set_cons_succ, List.length_cons, List.length_nil, Bool.true_and, Bool.and_true, Bool.not_true, Bool.not_false, if_true, if_false, Bool.false_eq_true, decide_eq_true_eq, Nat.zero_add, Nat.reduceAdd, Nat.reduceLT, List.nil_append, List.cons_append, List.isEmpty_cons, List.isEmpty_nil, Dl.geq_i, Dl.it_l, Dl.gx_l, Dl.gx_t, Dl.at_0, Dl.at_1, Dl.at_2, Dl.at_3, Dl.at_4, Dl.at_5, Dl.at_6, Dl.at_7, Dl.at_8, Dl.at_9, Dl.tr_b, Dl.tr_i, Dl.tr_n, Dl.tr_l, Dl.tr_t, Dl.gadd_i, Dl.gsub_i, Dl.gneg_i, Dl.glt_i, Dl.gle_i, Dl.ggt_i, Dl.gge_i, Dl.gaddI_i, Dl.gne_i, Dl.glen_l, Dl.glen_t, Dl.gint_i, Dl.gmin2_i, Dl.gmax2_i, Dl.gmaxL_2, Dl.gminL_2, Dl.gabs_i, Dl.geq_s, Dl.gne_s, ht, g1, g2, g3, g4, h, askR, hc]
  | bad => simp only [Dl.gd0, Dl.gdS, Dl.st0, Dl.stS, Dl.bd_ok, Dl.bd_ex, Dl.bd_bad, Dl.bd_if, Dl.bA_ok, Dl.bA_ex, Dl.bA_bad, Dl.bA_if, Dl.ou_ok, Dl.ou_ex, Dl.ou_bad, Dl.ou_if, Dl.sq_nx, Dl.sq_rt, Dl.sq_bk, Dl.sq_ct, Dl.sq_ex, Dl.sq_bad, Dl.sq_if, Dl.td_d, Dl.td_s, Dl.tds_0, Dl.tds_S, Dl.fz_d, Dl.fz_s, Dl.fzs_0, Dl.fzs_S, Dl.fz1_s, Dl.fz2_s, Dl.e_cst, Dl.e_var, Dl.var_d, Dl.var_own, Dl.var_bor, Dl.var_odk, Dl.var_odt, Dl.var_bdk, Dl.var_bdt, Dl.of_s, Dl.of_n, Dl.of_if, Dl.o1_s, Dl.o2_s, Dl.oA_s, Dl.e_op1, Dl.e_op2, Dl.ev_0, Dl.ev_S, Dl.evB_ok, Dl.evB_ex, Dl.evB_bad, Dl.evB_if, Dl.evC_ok, Dl.evC_ex, Dl.evC_bad, Dl.evC_if, Dl.e_opA, Dl.oTru_s, Dl.oTru2_s, Dl.e_tru, Dl.e_and, Dl.e_or, Dl.e_not, Dl.e_ifE, Dl.kAnd_b, Dl.kOr_b, Dl.kNot_b, Dl.kIfE_b, Dl.e_andV, Dl.e_orV, Dl.oAndV_b, Dl.oOrV_b, Dl.e_notV, Dl.e_chain, Dl.chn_1, Dl.chn_2, Dl.och0_s, Dl.och_b, Dl.e_tup, Dl.e_lst, Dl.oTup_s, Dl.oLst_s, Dl.e_frz, Dl.oFz_s, Dl.pt_0, Dl.pt_1, Dl.pOf_i, Dl.sl2_s, Dl.sl1_s, Dl.sl3_s, Dl.e_sl, Dl.e_ofN, Dl.oN_d, Dl.oN_own, Dl.oN_odk, Dl.oN_odt, Dl.oN_bor, Dl.oN_bdk, Dl.oN_bdt, Dl.oN_r, Dl.oN_n, Dl.oN_if, Dl.e_call, Dl.cN_ok, Dl.cN_ex, Dl.cN_bad, Dl.cN_if, Dl.e_callA, Dl.cA1_s, Dl.cA2_r, Dl.cA2_x, Dl.cA2_b, Dl.cA2_if, Dl.di_0, Dl.di_d, Dl.so_d, Dl.so_s, Dl.di_s, Dl.di1_0, Dl.di1_d, Dl.at_d, Dl.at_s, Dl.arg1_o, Dl.arg1_l, Dl.arg1_b, Dl.ats_0, Dl.ats_S, Dl.oC_s, Dl.pu_0, Dl.pu_S, Dl.pu1_s, Dl.pu1_n, Dl.e_callV, Dl.cV1_s, Dl.cV2_s, Dl.s_seq, Dl.s_nx, Dl.s_bk, Dl.s_ct, Dl.s_expr, Dl.kX_e, Dl.s_asg, Dl.as1_s, Dl.s_ret, Dl.kRt_d, Dl.kRt_s, Dl.rt1_o, Dl.s_retNone, Dl.s_if, Dl.kIf_b, Dl.s_asgN, Dl.s_retN, Dl.aN_s, Dl.aN_r, Dl.rN_s, Dl.rN_r, Dl.aN_b, Dl.rN_b, Dl.aN_if, Dl.rN_if, Dl.s_asgG, Dl.g1_s, Dl.g2_s, Dl.aT_n, Dl.aT_p, Dl.aT_l, Dl.s_asgU, Dl.aU_s, Dl.aTs_0, Dl.aTs_n, Dl.s_asgR, Dl.gR_s, Dl.s_raise, Dl.rs1_s, Dl.s_try, Dl.tr1_r, Dl.tr1_n, Dl.tr1_x, Dl.tr1_b, Dl.tr1_if, Dl.un_r, Dl.un_x, Dl.un_b, Dl.un_if, Dl.e_isX, Dl.ix1_s, Dl.e_atX, Dl.ax1_s, Dl.e_newA, Dl.nA_ok, Dl.nA1_s, Dl.nA2_s, Dl.e_newL, Dl.nL_ok, Dl.nL_ex, Dl.nL_b, Dl.nL_if, Dl.nL1_s, Dl.e_me, Dl.me1_s, Dl.me3_s, Dl.e_ch, Dl.ch0_o, Dl.ch1_s, Dl.ch2_s, Dl.ch3_s, Dl.ch3_if, Dl.s_setIx, Dl.si1_s, Dl.si2_o, Dl.si3_s, Dl.si4_s, Dl.s_aug, Dl.ag1_d, Dl.ag2_s, Dl.ag3_s, Dl.s_for, Dl.fS_s, Dl.fS_if, Dl.fL_0, Dl.fL1_s, Dl.fL2_n, Dl.fL2_c, Dl.fL2_b, Dl.fL2_r, Dl.fL2_if, Dl.e_ixE, Dl.iE_l, Dl.iE_t, Dl.iE_s, Dl.iE2_b, Dl.e_ixR1, Dl.e_ixR2, Dl.kWh_t, Dl.kWh_f, Dl.wh1_n, Dl.wh1_c, Dl.wh1_b, Dl.wh1_r, Dl.e_backAt, Dl.bk1_b, Dl.bk_n, Dl.bk_b, Dl.bk_c, Dl.bk_r, Dl.bkO_s, Dl.bk_if, Dl.s_lock, Dl.lkS_o, Dl.lkS_d, Dl.lkS_b, Dl.bkN_s, Dl.bkN1_s, Dl.e_lockN, Dl.lkN_o, Dl.lkN_d, Dl.lkN_b, Dl.rst1_d, Dl.rst1_n, Dl.wp_0, Dl.wp_S, Dl.rd_0, Dl.rd_S, Dl.e_lcN, Dl.lcR1_s, Dl.lcR2_s, Dl.lc_0, Dl.lc1_s, Dl.lc2_b, Dl.lc3_s, Dl.lc4_s, Dl.ts_n, Dl.ts_s, Dl.fE_n, Dl.fE_r, Dl.fE_x, Dl.fE_b, Dl.fE_if, Dl.en_0, Dl.en_1, Dl.okT_d, Dl.okT_o, Dl.oRt_s, Dl.fE_of, Dl.kop1, Dl.kop2, Dl.kop2b, Dl.kopA, Dl.kTru, Dl.kFz, Dl.kAndV, Dl.kOrV, Dl.kch1, Dl.kch2, Dl.kTup, Dl.kLst, Dl.kSl, Dl.tdO, Dl.T.dat, Dl.fzO, Dl.kAs, Dl.kG, Dl.kU, Dl.kR, Dl.kRs, Dl.kMe, Dl.kMe2, Dl.kCh, Dl.kSi, Dl.kSi3, Dl.kAg, Dl.slO, Dl.uAt, Option.bind_some, Option.map_some, List.getElem?_cons_zero, List.getElem?_cons_succ, List.set_cons_zero, List.set_cons_succ, List.length_cons, List.length_nil, Bool.true_and, Bool.and_true, Bool.not_true, Bool.not_false, if_true, if_false, Bool.false_eq_true, decide_eq_true_eq, Nat.zero_add, Nat.reduceAdd, Nat.reduceLT, List.nil_append, List.cons_append, List.isEmpty_cons, List.isEmpty_nil, Dl.geq_i, Dl.it_l, Dl.gx_l, Dl.gx_t, Dl.at_0, Dl.at_1, Dl.at_2, Dl.at_3, Dl.at_4, Dl.at_5, Dl.at_6, Dl.at_7, Dl.at_8, Dl.at_9, Dl.tr_b, Dl.tr_i, Dl.tr_n, Dl.tr_l, Dl.tr_t, Dl.gadd_i, Dl.gsub_i, Dl.gneg_i, Dl.glt_i, Dl.gle_i, Dl.ggt_i, Dl.gge_i, Dl.gaddI_i, Dl.gne_i, Dl.glen_l, Dl.glen_t, Dl.gint_i, Dl.gmin2_i, Dl.gmax2_i, Dl.gmaxL_2, Dl.gminL_2, Dl.gabs_i, Dl.geq_s, Dl.gne_s, ht, g1, g2, g3, g4, h, askR]
/-! ### what data are -/
def ndt : D → Bool
  | .dict _ => false
  | _ => true
def isI : D → Bool
  | .int _ => true
  | _ => false
def iv : D → Int
  | .int i => i
  | _ => 0
def isN (x : D) (lo hi : Int) : Bool := isI x && (decide (lo ≤ iv x) && decide (iv x ≤ hi))
theorem isN_i {i lo hi : Int} : isN (.int i) lo hi = (decide (lo ≤ i) && decide (i ≤ hi)) := rfl
theorem isI_of {x : D} (h : isI x = true) : x = .int (iv x) := by cases x <;> first | rfl | cases h
theorem isN_of {x : D} {lo hi : Int} (h : isN x lo hi = true) : ∃ i, x = .int i ∧ lo ≤ i ∧ i ≤ hi := by
  unfold isN at h
  simp only [Bool.and_eq_true, decide_eq_true_eq] at h
  exact ⟨iv x, isI_of h.1, h.2.1, h.2.2⟩
theorem isN_int {i lo hi : Int} (h1 : lo ≤ i) (h2 : i ≤ hi) : isN (.int i) lo hi = true := by
  rw [isN_i]; simp [h1, h2]
theorem lay_ndt {n : Nat} {x : D} (h : lay n x = true) : ndt x = true := by cases x <;> first | rfl | (cases n <;> simp [lay] at h)
theorem lays_mem {n : Nat} : ∀ {l : List D}, lays n l = true → ∀ x ∈ l, lay n x = true
  | [], _, x, hx => by simp at hx
  | y :: l, h, x, hx => by
    simp only [lays, Bool.and_eq_true] at h
    rcases List.mem_cons.mp hx with rfl | hx
    · exact h.1
    · exact lays_mem h.2 x hx
theorem lays_of {n : Nat} : ∀ {l : List D}, (∀ x ∈ l, lay n x = true) → lays n l = true
  | [], _ => rfl
  | y :: l, h => by
    simp only [lays, Bool.and_eq_true]
    exact ⟨h y (List.mem_cons_self ..), lays_of fun x hx => h x (List.mem_cons_of_mem _ hx)⟩
theorem lay_t {n : Nat} {l : List D} (h : lay n (.tuple l) = true) : ∃ m, n = m + 1 ∧ lays m l = true := by
  cases n with
  | zero => simp [lay] at h
  | succ m => exact ⟨m, rfl, by simpa [lay] using h⟩
mutual
theorem lay_up : ∀ {x : D} {n m : Nat}, n ≤ m → lay n x = true → lay m x = true
  | .none, _, _, _, _ => by simp only [lay]
  | .bool _, _, _, _, _ => by simp only [lay]
  | .int _, _, _, _, _ => by simp only [lay]
  | .str x, n, m, _, h => by simp only [lay] at h ⊢; exact h
  | .list l, n, m, hm, h => by
    cases n with
    | zero => simp [lay] at h
    | succ n =>
      cases m with
      | zero => omega
      | succ m =>
        simp only [lay] at h ⊢
        exact lays_up (by omega) h
  | .tuple l, n, m, hm, h => by
    cases n with
    | zero => simp [lay] at h
    | succ n =>
      cases m with
      | zero => omega
      | succ m =>
        simp only [lay] at h ⊢
        exact lays_up (by omega) h
  | .dict _, n, m, _, h => by cases n <;> simp [lay] at h
theorem lays_up : ∀ {l : List D} {n m : Nat}, n ≤ m → lays n l = true → lays m l = true
  | [], _, _, _, _ => by simp only [lays]
  | x :: l, n, m, hm, h => by
    simp only [lays, Bool.and_eq_true] at h ⊢
    exact ⟨lay_up hm h.1, lays_up hm h.2⟩
end
theorem lay_tm {n : Nat} {l : List D} (h : lay n (.tuple l) = true) : ∀ x ∈ l, lay n x = true := by
  obtain ⟨m, rfl, h⟩ := lay_t h
  exact fun x hx => lay_up (Nat.le_succ m) (lays_mem h x hx)
theorem boolsOf_map {α : Type} (p : α → Bool) : ∀ l : List α, boolsOf (l.map fun x => .bool (p x)) = some (l.map p)
  | [] => rfl
  | x :: l => by rw [List.map_cons, boolsOf, boolsOf_map p l]; rfl
theorem gall_map {α : Type} {p : α → Bool} {l : List α} : gAll [.list (l.map fun x => .bool (p x))] = some (.bool (l.all p)) := by
  show (boolsOf (l.map fun x => .bool (p x))).map _ = _
  rw [boolsOf_map]
  simp only [Option.map_some, List.all_map]
  rfl
theorem intsOf_mapf {α : Type} (p : α → Int) : ∀ l : List α, intsOf (l.map fun x => .int (p x)) = some (l.map p)
  | [] => rfl
  | x :: l => by
    have := intsOf_map ((x :: l).map p)
    rw [List.map_map] at this
    exact this
theorem gsum_map {α : Type} {p : α → Int} {l : List α} : gSum [.list (l.map fun x => .int (p x))] = some (.int (l.map p).sum) := by
  show (intsOf (l.map fun x => .int (p x))).map _ = _
  rw [intsOf_mapf]
  rfl
theorem v_is_integer {x : D} (h : ndt x = true) : m_is_integer [.d x] = .ret (.d (.bool (isI x))) [] := by
  rw [u_is_integer]
  unfold b_is_integer
  cases x with
  | dict _ => cases h
  | _ => push_cast [isT, tru]; rfl
def AE (z : Str) : Fo := .ex "ArgumentError" (.str z) []
def PE (z : Str) : Fo := .ex "PaperError" (.str z) []
/-! a part's kind, told in a comprehension -/
theorem ev_isI {δ : Dl.Env} {i : Nat} {x : D} (h : δ.getD i none = some (.d x)) (hx : ndt x = true) : ofN (callN [] m_is_integer [var i]) δ = .ok (.d (.bool (isI x))) δ := by
  push_cast [h, v_is_integer hx]
theorem gd_set {δ : Dl.Env} {i : Nat} {t : Option T} (h : i < δ.length) : (δ.set i t).getD i none = t := getD_set_self h
theorem lc_isI {n i : Nat} {fi : Ix} {δ δ1 : Dl.Env} {l : List D} (hi : i < δ1.length) (hn : δ.length = n) (hfi : fi δ = .inl (some (l, δ1))) (hl : l.length ≤ 16777216) (h : ∀ x ∈ l, ndt x = true) :
    lcN n [i] (.nm i) fi none (ofN (callN [] m_is_integer [var i])) δ = .inl (some (.own (l.map fun x => .bool (isI x)), δ1.set i (keepO (δ1.getD i none)))) :=
  lc_map _ hn hfi hl fun x hx => ev_isI (gd_set hi) (h x hx)
/-! ### what is told of errors -/
def aw (z : Str) : Str := "argument " ++ z
def pw (z : Str) : Str := "paper " ++ z
theorem askR_AE {z : Str} (hz : z.length ≤ 100) : askR (AE z) = .ret (.d (.str (aw z))) [] := by
  have hp : Str.length "argument " = 9 := by decide
  show (if ("ArgumentError" : Str) ∈ errs then wordR (m__law_word 0 0 "ArgumentError" [.d (excD 0 0 "ArgumentError" (.str z))]) else Fo.bad) = _
  rw [if_pos wn_ArgumentError, w_ArgumentError, gadd_s (by omega)]
  rfl
theorem askR_PE {z : Str} (hz : z.length ≤ 100) : askR (PE z) = .ret (.d (.str (pw z))) [] := by
  have hp : Str.length "paper " = 6 := by decide
  show (if ("PaperError" : Str) ∈ errs then wordR (m__law_word 0 0 "PaperError" [.d (excD 0 0 "PaperError" (.str z))]) else Fo.bad) = _
  rw [if_pos wn_PaperError, w_PaperError, gadd_s (by omega)]
  rfl
theorem askR_r {v : D} : askR (.ret (.d v) []) = .ret (.d (.list [v])) [] := rfl
theorem asked_1 {w : Str} {m : List T → Fo} {a : D} (ht : tab w = some (1, [], m)) : m__law_asked [.d (fnD w), .d (.list [a])] = askR (m [.d a]) := by
  rw [u__law_asked]
  unfold b__law_asked
  have g1 : decide (((0 + 1 : Nat) : Int) < 3) = true := by decide
  have g2 : decide (((0 + 1 : Nat) : Int) = 1) = true := by decide
  cases h : m [.d a] with
  | ret t us => cases t <;> simp only [Dl.gd0, Dl.gdS, Dl.st0, Dl.stS, Dl.bd_ok, Dl.bd_ex, Dl.bd_bad, Dl.bd_if, Dl.bA_ok, Dl.bA_ex, Dl.bA_bad, Dl.bA_if, Dl.ou_ok, Dl.ou_ex, Dl.ou_bad, Dl.ou_if, Dl.sq_nx, Dl.sq_rt, Dl.sq_bk, Dl.sq_ct, Dl.sq_ex, Dl.sq_bad, Dl.sq_if, Dl.td_d, Dl.td_s, Dl.tds_0, Dl.tds_S, Dl.fz_d, Dl.fz_s, Dl.fzs_0, Dl.fzs_S, Dl.fz1_s, Dl.fz2_s, Dl.e_cst, Dl.e_var, Dl.var_d, Dl.var_own, Dl.var_bor, Dl.var_odk, Dl.var_odt, Dl.var_bdk, Dl.var_bdt, Dl.of_s, Dl.of_n, Dl.of_if, Dl.o1_s, Dl.o2_s, Dl.oA_s, Dl.e_op1, Dl.e_op2, Dl.ev_0, Dl.ev_S, Dl.evB_ok, Dl.evB_ex, Dl.evB_bad, Dl.evB_if, Dl.evC_ok, Dl.evC_ex, Dl.evC_bad, Dl.evC_if, Dl.e_opA, Dl.oTru_s, Dl.oTru2_s, Dl.e_tru, Dl.e_and, Dl.e_or, Dl.e_not, Dl.e_ifE, Dl.kAnd_b, Dl.kOr_b, Dl.kNot_b, Dl.kIfE_b, Dl.e_andV, Dl.e_orV, Dl.oAndV_b, Dl.oOrV_b, Dl.e_notV, Dl.e_chain, Dl.chn_1, Dl.chn_2, Dl.och0_s, Dl.och_b, Dl.e_tup, Dl.e_lst, Dl.oTup_s, Dl.oLst_s, Dl.e_frz, Dl.oFz_s, Dl.pt_0, Dl.pt_1, Dl.pOf_i, Dl.sl2_s, Dl.sl1_s, Dl.sl3_s, Dl.e_sl, Dl.e_ofN, Dl.oN_d, Dl.oN_own, Dl.oN_odk, Dl.oN_odt, Dl.oN_bor, Dl.oN_bdk, Dl.oN_bdt, Dl.oN_r, Dl.oN_n, Dl.oN_if, Dl.e_call, Dl.cN_ok, Dl.cN_ex, Dl.cN_bad, Dl.cN_if, Dl.e_callA, Dl.cA1_s, Dl.cA2_r, Dl.cA2_x, Dl.cA2_b, Dl.cA2_if, Dl.di_0, Dl.di_d, Dl.so_d, Dl.so_s, Dl.di_s, Dl.di1_0, Dl.di1_d, Dl.at_d, Dl.at_s, Dl.arg1_o, Dl.arg1_l, Dl.arg1_b, Dl.ats_0, Dl.ats_S, Dl.oC_s, Dl.pu_0, Dl.pu_S, Dl.pu1_s, Dl.pu1_n, Dl.e_callV, Dl.cV1_s, Dl.cV2_s, Dl.s_seq, Dl.s_nx, Dl.s_bk, Dl.s_ct, Dl.s_expr, Dl.kX_e, Dl.s_asg, Dl.as1_s, Dl.s_ret, Dl.kRt_d, Dl.kRt_s, Dl.rt1_o, Dl.s_retNone, Dl.s_if, Dl.kIf_b, Dl.s_asgN, Dl.s_retN, Dl.aN_s, Dl.aN_r, Dl.rN_s, Dl.rN_r, Dl.aN_b, Dl.rN_b, Dl.aN_if, Dl.rN_if, Dl.s_asgG, Dl.g1_s, Dl.g2_s, Dl.aT_n, Dl.aT_p, Dl.aT_l, Dl.s_asgU, Dl.aU_s, Dl.aTs_0, Dl.aTs_n, Dl.s_asgR, Dl.gR_s, Dl.s_raise, Dl.rs1_s, Dl.s_try, Dl.tr1_r, Dl.tr1_n, Dl.tr1_x, Dl.tr1_b, Dl.tr1_if, Dl.un_r, Dl.un_x, Dl.un_b, Dl.un_if, Dl.e_isX, Dl.ix1_s, Dl.e_atX, Dl.ax1_s, Dl.e_newA, Dl.nA_ok, Dl.nA1_s, Dl.nA2_s, Dl.e_newL, Dl.nL_ok, Dl.nL_ex, Dl.nL_b, Dl.nL_if, Dl.nL1_s, Dl.e_me, Dl.me1_s, Dl.me3_s, Dl.e_ch, Dl.ch0_o, Dl.ch1_s, Dl.ch2_s, Dl.ch3_s, Dl.ch3_if, Dl.s_setIx, Dl.si1_s, Dl.si2_o, Dl.si3_s, Dl.si4_s, Dl.s_aug, Dl.ag1_d, Dl.ag2_s, Dl.ag3_s, Dl.s_for, Dl.fS_s, Dl.fS_if, Dl.fL_0, Dl.fL1_s, Dl.fL2_n, Dl.fL2_c, Dl.fL2_b, Dl.fL2_r, Dl.fL2_if, Dl.e_ixE, Dl.iE_l, Dl.iE_t, Dl.iE_s, Dl.iE2_b, Dl.e_ixR1, Dl.e_ixR2, Dl.kWh_t, Dl.kWh_f, Dl.wh1_n, Dl.wh1_c, Dl.wh1_b, Dl.wh1_r, Dl.e_backAt, Dl.bk1_b, Dl.bk_n, Dl.bk_b, Dl.bk_c, Dl.bk_r, Dl.bkO_s, Dl.bk_if, Dl.s_lock, Dl.lkS_o, Dl.lkS_d, Dl.lkS_b, Dl.bkN_s, Dl.bkN1_s, Dl.e_lockN, Dl.lkN_o, Dl.lkN_d, Dl.lkN_b, Dl.rst1_d, Dl.rst1_n, Dl.wp_0, Dl.wp_S, Dl.rd_0, Dl.rd_S, Dl.e_lcN, Dl.lcR1_s, Dl.lcR2_s, Dl.lc_0, Dl.lc1_s, Dl.lc2_b, Dl.lc3_s, Dl.lc4_s, Dl.ts_n, Dl.ts_s, Dl.fE_n, Dl.fE_r, Dl.fE_x, Dl.fE_b, Dl.fE_if, Dl.en_0, Dl.en_1, Dl.okT_d, Dl.okT_o, Dl.oRt_s, Dl.fE_of, Dl.kop1, Dl.kop2, Dl.kop2b, Dl.kopA, Dl.kTru, Dl.kFz, Dl.kAndV, Dl.kOrV, Dl.kch1, Dl.kch2, Dl.kTup, Dl.kLst, Dl.kSl, Dl.tdO, Dl.T.dat, Dl.fzO, Dl.kAs, Dl.kG, Dl.kU, Dl.kR, Dl.kRs, Dl.kMe, Dl.kMe2, Dl.kCh, Dl.kSi, Dl.kSi3, Dl.kAg, Dl.slO, Dl.uAt, Option.bind_some, Option.map_some, List.getElem?_cons_zero, List.getElem?_cons_succ, List.set_cons_zero, List.set_cons_succ, List.length_cons, List.length_nil, Bool.true_and, Bool.and_true, Bool.not_true, Bool.not_false, if_true, if_false, Bool.false_eq_true, decide_eq_true_eq, Nat.zero_add, Nat.reduceAdd, Nat.reduceLT, List.nil_append, List.cons_append, List.isEmpty_cons, List.isEmpty_nil, Dl.geq_i, Dl.it_l, Dl.gx_l, Dl.gx_t, Dl.at_0, Dl.at_1, Dl.at_2, Dl.at_3, Dl.at_4, Dl.at_5, Dl.at_6, Dl.at_7, Dl.at_8, Dl.at_9, Dl.tr_b, Dl.tr_i, Dl.tr_n, Dl.tr_l, Dl.tr_t, Dl.gadd_i, Dl.gsub_i, Dl.gneg_i, Dl.glt_i, Dl.gle_i, Dl.ggt_i, Dl.gge_i, Dl.gaddI_i, Dl.gne_i, Dl.glen_l, Dl.glen_t, Dl.gint_i, Dl.gmin2_i, Dl.gmax2_i, Dl.gmaxL_2, Dl.gminL_2, Dl.gabs_i, Dl.geq_s, Dl.gne_s, ht, g1, g2, h, askR, askT]
  | ex c x us =>
    by_cases hc : c ∈ errs
    · simp only [Dl.gd0, Dl.gdS, Dl.st0, Dl.stS, Dl.bd_ok, Dl.bd_ex, Dl.bd_bad, Dl.bd_if, Dl.bA_ok, Dl.bA_ex, Dl.bA_bad, Dl.bA_if, Dl.ou_ok, Dl.ou_ex, Dl.ou_bad, Dl.ou_if, Dl.sq_nx, Dl.sq_rt, Dl.sq_bk, Dl.sq_ct, Dl.sq_ex, Dl.sq_bad, Dl.sq_if, Dl.td_d, Dl.td_s, Dl.tds_0, Dl.tds_S, Dl.fz_d, Dl.fz_s, Dl.fzs_0, Dl.fzs_S, Dl.fz1_s, Dl.fz2_s, Dl.e_cst, Dl.e_var, Dl.var_d, Dl.var_own, Dl.var_bor, Dl.var_odk, Dl.var_odt, Dl.var_bdk, Dl.var_bdt, Dl.of_s, Dl.of_n, Dl.of_if, Dl.o1_s, Dl.o2_s, Dl.oA_s, Dl.e_op1, Dl.e_op2, Dl.ev_0, Dl.ev_S, Dl.evB_ok, Dl.evB_ex, Dl.evB_bad, Dl.evB_if, Dl.evC_ok, Dl.evC_ex, Dl.evC_bad, Dl.evC_if, Dl.e_opA, Dl.oTru_s, Dl.oTru2_s, Dl.e_tru, Dl.e_and, Dl.e_or, Dl.e_not, Dl.e_ifE, Dl.kAnd_b, Dl.kOr_b, Dl.kNot_b, Dl.kIfE_b, Dl.e_andV, Dl.e_orV, Dl.oAndV_b, Dl.oOrV_b, Dl.e_notV, Dl.e_chain, Dl.chn_1, Dl.chn_2, Dl.och0_s, Dl.och_b, Dl.e_tup, Dl.e_lst, Dl.oTup_s, Dl.oLst_s, Dl.e_frz, Dl.oFz_s, Dl.pt_0, Dl.pt_1, Dl.pOf_i, Dl.sl2_s, Dl.sl1_s, Dl.sl3_s, Dl.e_sl, Dl.e_ofN, Dl.oN_d, Dl.oN_own, Dl.oN_odk, Dl.oN_odt, Dl.oN_bor, Dl.oN_bdk, Dl.oN_bdt, Dl.oN_r, Dl.oN_n, Dl.oN_if, Dl.e_call, Dl.cN_ok, Dl.cN_ex, Dl.cN_bad, Dl.cN_if, Dl.e_callA, Dl.cA1_s, Dl.cA2_r, Dl.cA2_x, Dl.cA2_b, Dl.cA2_if, Dl.di_0, Dl.di_d, Dl.so_d, Dl.so_s, Dl.di_s, Dl.di1_0, Dl.di1_d, Dl.at_d, Dl.at_s, Dl.arg1_o, Dl.arg1_l, Dl.arg1_b, Dl.ats_0, Dl.ats_S, Dl.oC_s, Dl.pu_0, Dl.pu_S, Dl.pu1_s, Dl.pu1_n, Dl.e_callV, Dl.cV1_s, Dl.cV2_s, Dl.s_seq, Dl.s_nx, Dl.s_bk, Dl.s_ct, Dl.s_expr, Dl.kX_e, Dl.s_asg, Dl.as1_s, Dl.s_ret, Dl.kRt_d, Dl.kRt_s, Dl.rt1_o, Dl.s_retNone, Dl.s_if, Dl.kIf_b, Dl.s_asgN, Dl.s_retN, Dl.aN_s, Dl.aN_r, Dl.rN_s, Dl.rN_r, Dl.aN_b, Dl.rN_b, Dl.aN_if, Dl.rN_if, Dl.s_asgG, Dl.g1_s, Dl.g2_s, Dl.aT_n, Dl.aT_p, Dl.aT_l, Dl.s_asgU, Dl.aU_s, Dl.aTs_0, Dl.aTs_n, Dl.s_asgR, Dl.gR_s, Dl.s_raise, Dl.rs1_s, Dl.s_try, Dl.tr1_r, Dl.tr1_n, Dl.tr1_x, Dl.tr1_b, Dl.tr1_if, Dl.un_r, Dl.un_x, Dl.un_b, Dl.un_if, Dl.e_isX, Dl.ix1_s, Dl.e_atX, Dl.ax1_s, Dl.e_newA, Dl.nA_ok, Dl.nA1_s, Dl.nA2_s, Dl.e_newL, Dl.nL_ok, Dl.nL_ex, Dl.nL_b, Dl.nL_if, Dl.nL1_s, Dl.e_me, Dl.me1_s, Dl.me3_s, Dl.e_ch, Dl.ch0_o, Dl.ch1_s, Dl.ch2_s, Dl.ch3_s, Dl.ch3_if, Dl.s_setIx, Dl.si1_s, Dl.si2_o, Dl.si3_s, Dl.si4_s, Dl.s_aug, Dl.ag1_d, Dl.ag2_s, Dl.ag3_s, Dl.s_for, Dl.fS_s, Dl.fS_if, Dl.fL_0, Dl.fL1_s, Dl.fL2_n, Dl.fL2_c, Dl.fL2_b, Dl.fL2_r, Dl.fL2_if, Dl.e_ixE, Dl.iE_l, Dl.iE_t, Dl.iE_s, Dl.iE2_b, Dl.e_ixR1, Dl.e_ixR2, Dl.kWh_t, Dl.kWh_f, Dl.wh1_n, Dl.wh1_c, Dl.wh1_b, Dl.wh1_r, Dl.e_backAt, Dl.bk1_b, Dl.bk_n, Dl.bk_b, Dl.bk_c, Dl.bk_r, Dl.bkO_s, Dl.bk_if, Dl.s_lock, Dl.lkS_o, Dl.lkS_d, Dl.lkS_b, Dl.bkN_s, Dl.bkN1_s, Dl.e_lockN, Dl.lkN_o, Dl.lkN_d, Dl.lkN_b, Dl.rst1_d, Dl.rst1_n, Dl.wp_0, Dl.wp_S, Dl.rd_0, Dl.rd_S, Dl.e_lcN, Dl.lcR1_s, Dl.lcR2_s, Dl.lc_0, Dl.lc1_s, Dl.lc2_b, Dl.lc3_s, Dl.lc4_s, Dl.ts_n, Dl.ts_s, Dl.fE_n, Dl.fE_r, Dl.fE_x, Dl.fE_b, Dl.fE_if, Dl.en_0, Dl.en_1, Dl.okT_d, Dl.okT_o, Dl.oRt_s, Dl.fE_of, Dl.kop1, Dl.kop2, Dl.kop2b, Dl.kopA, Dl.kTru, Dl.kFz, Dl.kAndV, Dl.kOrV, Dl.kch1, Dl.kch2, Dl.kTup, Dl.kLst, Dl.kSl, Dl.tdO, Dl.T.dat, Dl.fzO, Dl.kAs, Dl.kG, Dl.kU, Dl.kR, Dl.kRs, Dl.kMe, Dl.kMe2, Dl.kCh, Dl.kSi, Dl.kSi3, Dl.kAg, Dl.slO, Dl.uAt, Option.bind_some, Option.map_some, List.getElem?_cons_zero, List.getElem?_cons_succ, List.set_cons_zero, List.set_cons_succ, List.length_cons, List.length_nil, Bool.true_and, Bool.and_true, Bool.not_true, Bool.not_false, if_true, if_false, Bool.false_eq_true, decide_eq_true_eq, Nat.zero_add, Nat.reduceAdd, Nat.reduceLT, List.nil_append, List.cons_append, List.isEmpty_cons, List.isEmpty_nil, Dl.geq_i, Dl.it_l, Dl.gx_l, Dl.gx_t, Dl.at_0, Dl.at_1, Dl.at_2, Dl.at_3, Dl.at_4, Dl.at_5, Dl.at_6, Dl.at_7, Dl.at_8, Dl.at_9, Dl.tr_b, Dl.tr_i, Dl.tr_n, Dl.tr_l, Dl.tr_t, Dl.gadd_i, Dl.gsub_i, Dl.gneg_i, Dl.glt_i, Dl.gle_i, Dl.ggt_i, Dl.gge_i, Dl.gaddI_i, Dl.gne_i, Dl.glen_l, Dl.glen_t, Dl.gint_i, Dl.gmin2_i, Dl.gmax2_i, Dl.gmaxL_2, Dl.gminL_2, Dl.gabs_i, Dl.geq_s, Dl.gne_s, ht, g1, g2, h, askR, hc]
      cases hw : m__law_word 0 0 c [T.d (excD 0 0 c x)] with
      | ret t us => simp only [Dl.gd0, Dl.gdS, Dl.st0, Dl.stS, Dl.bd_ok, Dl.bd_ex, Dl.bd_bad, Dl.bd_if, Dl.bA_ok, Dl.bA_ex, Dl.bA_bad, Dl.bA_if, Dl.ou_ok, Dl.ou_ex, Dl.ou_bad, Dl.ou_if, Dl.sq_nx, Dl.sq_rt, Dl.sq_bk, Dl.sq_ct, Dl.sq_ex, Dl.sq_bad, Dl.sq_if, Dl.td_d, Dl.td_s, Dl.tds_0, Dl.tds_S, Dl.fz_d, Dl.fz_s, Dl.fzs_0, Dl.fzs_S, Dl.fz1_s, Dl.fz2_s, Dl.e_cst, Dl.e_var, Dl.var_d, Dl.var_own, Dl.var_bor, Dl.var_odk, Dl.var_odt, Dl.var_bdk, Dl.var_bdt, Dl.of_s, Dl.of_n, Dl.of_if, Dl.o1_s, Dl.o2_s, Dl.oA_s, Dl.e_op1, Dl.e_op2, Dl.ev_0, Dl.ev_S, Dl.evB_ok, Dl.evB_ex, Dl.evB_bad, Dl.evB_if, Dl.evC_ok, Dl.evC_ex, Dl.evC_bad, Dl.evC_if, Dl.e_opA, Dl.oTru_s, Dl.oTru2_s, Dl.e_tru, Dl.e_and, Dl.e_or, Dl.e_not, Dl.e_ifE, Dl.kAnd_b, Dl.kOr_b, Dl.kNot_b, Dl.kIfE_b, Dl.e_andV, Dl.e_orV, Dl.oAndV_b, Dl.oOrV_b, Dl.e_notV, Dl.e_chain, Dl.chn_1, Dl.chn_2, Dl.och0_s, Dl.och_b, Dl.e_tup, Dl.e_lst, Dl.oTup_s, Dl.oLst_s, Dl.e_frz, Dl.oFz_s, Dl.pt_0, Dl.pt_1, Dl.pOf_i, Dl.sl2_s, Dl.sl1_s, Dl.sl3_s, Dl.e_sl, Dl.e_ofN, Dl.oN_d, Dl.oN_own, Dl.oN_odk, Dl.oN_odt, Dl.oN_bor, Dl.oN_bdk, Dl.oN_bdt, Dl.oN_r, Dl.oN_n, Dl.oN_if, Dl.e_call, Dl.cN_ok, Dl.cN_ex, Dl.cN_bad, Dl.cN_if, Dl.e_callA, Dl.cA1_s, Dl.cA2_r, Dl.cA2_x, Dl.cA2_b, Dl.cA2_if, Dl.di_0, Dl.di_d, Dl.so_d, Dl.so_s, Dl.di_s, Dl.di1_0, Dl.di1_d, Dl.at_d, Dl.at_s, Dl.arg1_o, Dl.arg1_l, Dl.arg1_b, Dl.ats_0, Dl.ats_S, Dl.oC_s, Dl.pu_0, Dl.pu_S, Dl.pu1_s, Dl.pu1_n, Dl.e_callV, Dl.cV1_s, Dl.cV2_s, Dl.s_seq, Dl.s_nx, Dl.s_bk, Dl.s_ct, Dl.s_expr, Dl.kX_e, Dl.s_asg, Dl.as1_s, Dl.s_ret, Dl.kRt_d, Dl.kRt_s, Dl.rt1_o, Dl.s_retNone, Dl.s_if, Dl.kIf_b, Dl.s_asgN, Dl.s_retN, Dl.aN_s, Dl.aN_r, Dl.rN_s, Dl.rN_r, Dl.aN_b, Dl.rN_b, Dl.aN_if, Dl.rN_if, Dl.s_asgG, Dl.g1_s, Dl.g2_s, Dl.aT_n, Dl.aT_p, Dl.aT_l, Dl.s_asgU, Dl.aU_s, Dl.aTs_0, Dl.aTs_n, Dl.s_asgR, Dl.gR_s, Dl.s_raise, Dl.rs1_s, Dl.s_try, Dl.tr1_r, Dl.tr1_n, Dl.tr1_x, Dl.tr1_b, Dl.tr1_if, Dl.un_r, Dl.un_x, Dl.un_b, Dl.un_if, Dl.e_isX, Dl.ix1_s, Dl.e_atX, Dl.ax1_s, Dl.e_newA, Dl.nA_ok, Dl.nA1_s, Dl.nA2_s, Dl.e_newL, Dl.nL_ok, Dl.nL_ex, Dl.nL_b, Dl.nL_if, Dl.nL1_s, Dl.e_me, Dl.me1_s, Dl.me3_s, Dl.e_ch, Dl.ch0_o, Dl.ch1_s, Dl.ch2_s, Dl.ch3_s, Dl.ch3_if, Dl.s_setIx, Dl.si1_s, Dl.si2_o, Dl.si3_s, Dl.si4_s, Dl.s_aug, Dl.ag1_d, Dl.ag2_s, Dl.ag3_s, Dl.s_for, Dl.fS_s, Dl.fS_if, Dl.fL_0, Dl.fL1_s, Dl.fL2_n, Dl.fL2_c, Dl.fL2_b, Dl.fL2_r, Dl.fL2_if, Dl.e_ixE, Dl.iE_l, Dl.iE_t, Dl.iE_s, Dl.iE2_b, Dl.e_ixR1, Dl.e_ixR2, Dl.kWh_t, Dl.kWh_f, Dl.wh1_n, Dl.wh1_c, Dl.wh1_b, Dl.wh1_r, Dl.e_backAt, Dl.bk1_b, Dl.bk_n, Dl.bk_b, Dl.bk_c, Dl.bk_r, Dl.bkO_s, Dl.bk_if, Dl.s_lock, Dl.lkS_o, Dl.lkS_d, Dl.lkS_b, Dl.bkN_s, Dl.bkN1_s, Dl.e_lockN, Dl.lkN_o, Dl.lkN_d, Dl.lkN_b, Dl.rst1_d, Dl.rst1_n, Dl.wp_0, Dl.wp_S, Dl.rd_0, Dl.rd_S, Dl.e_lcN, Dl.lcR1_s, Dl.lcR2_s, Dl.lc_0, Dl.lc1_s, Dl.lc2_b, Dl.lc3_s, Dl.lc4_s, Dl.ts_n, Dl.ts_s, Dl.fE_n, Dl.fE_r, Dl.fE_x, Dl.fE_b, Dl.fE_if, Dl.en_0, Dl.en_1, Dl.okT_d, Dl.okT_o, Dl.oRt_s, Dl.fE_of, Dl.kop1, Dl.kop2, Dl.kop2b, Dl.kopA, Dl.kTru, Dl.kFz, Dl.kAndV, Dl.kOrV, Dl.kch1, Dl.kch2, Dl.kTup, Dl.kLst, Dl.kSl, Dl.tdO, Dl.T.dat, Dl.fzO, Dl.kAs, Dl.kG, Dl.kU, Dl.kR, Dl.kRs, Dl.kMe, Dl.kMe2, Dl.kCh, Dl.kSi, Dl.kSi3, Dl.kAg, Dl.slO, Dl.uAt, Option.bind_some, Option.map_some, List.getElem?_cons_zero, List.getElem?_cons_succ, List.set_cons_zero, List.set_cons_succ, List.length_cons, List.length_nil, Bool.true_and, Bool.and_true, Bool.not_true, Bool.not_false, if_true, if_false, Bool.false_eq_true, decide_eq_true_eq, Nat.zero_add, Nat.reduceAdd, Nat.reduceLT, List.nil_append, List.cons_append, List.isEmpty_cons, List.isEmpty_nil, Dl.geq_i, Dl.it_l, Dl.gx_l, Dl.gx_t, Dl.at_0, Dl.at_1, Dl.at_2, Dl.at_3, Dl.at_4, Dl.at_5, Dl.at_6, Dl.at_7, Dl.at_8, Dl.at_9, Dl.tr_b, Dl.tr_i, Dl.tr_n, Dl.tr_l, Dl.tr_t, Dl.gadd_i, Dl.gsub_i, Dl.gneg_i, Dl.glt_i, Dl.gle_i, Dl.ggt_i, Dl.gge_i, Dl.gaddI_i, Dl.gne_i, Dl.glen_l, Dl.glen_t, Dl.gint_i, Dl.gmin2_i, Dl.gmax2_i, Dl.gmaxL_2, Dl.gminL_2, Dl.gabs_i, Dl.geq_s, Dl.gne_s, wordR]
      | ex c2 x2 us => simp only [Dl.gd0, Dl.gdS, Dl.st0, Dl.stS, Dl.bd_ok, Dl.bd_ex, Dl.bd_bad, Dl.bd_if, Dl.bA_ok, Dl.bA_ex, Dl.bA_bad, Dl.bA_if, Dl.ou_ok, Dl.ou_ex, Dl.ou_bad, Dl.ou_if, Dl.sq_nx, Dl.sq_rt, Dl.sq_bk, Dl.sq_ct, Dl.sq_ex, Dl.sq_bad, Dl.sq_if, Dl.td_d, Dl.td_s, Dl.tds_0, Dl.tds_S, Dl.fz_d, Dl.fz_s, Dl.fzs_0, Dl.fzs_S, Dl.fz1_s, Dl.fz2_s, Dl.e_cst, Dl.e_var, Dl.var_d, Dl.var_own, Dl.var_bor, Dl.var_odk, Dl.var_odt, Dl.var_bdk, Dl.var_bdt, Dl.of_s, Dl.of_n, Dl.of_if, Dl.o1_s, Dl.o2_s, Dl.oA_s, Dl.e_op1, Dl.e_op2, Dl.ev_0, Dl.ev_S, Dl.evB_ok, Dl.evB_ex, Dl.evB_bad, Dl.evB_if, Dl.evC_ok, Dl.evC_ex, Dl.evC_bad, Dl.evC_if, Dl.e_opA, Dl.oTru_s, Dl.oTru2_s, Dl.e_tru, Dl.e_and, Dl.e_or, Dl.e_not, Dl.e_ifE, Dl.kAnd_b, Dl.kOr_b, Dl.kNot_b, Dl.kIfE_b, Dl.e_andV, Dl.e_orV, Dl.oAndV_b, Dl.oOrV_b, Dl.e_notV, Dl.e_chain, Dl.chn_1, Dl.chn_2, Dl.och0_s, Dl.och_b, Dl.e_tup, Dl.e_lst, Dl.oTup_s, Dl.oLst_s, Dl.e_frz, Dl.oFz_s, Dl.pt_0, Dl.pt_1, Dl.pOf_i, Dl.sl2_s, Dl.sl1_s, Dl.sl3_s, Dl.e_sl, Dl.e_ofN, Dl.oN_d, Dl.oN_own, Dl.oN_odk, Dl.oN_odt, Dl.oN_bor, Dl.oN_bdk, Dl.oN_bdt, Dl.oN_r, Dl.oN_n, Dl.oN_if, Dl.e_call, Dl.cN_ok, Dl.cN_ex, Dl.cN_bad, Dl.cN_if, Dl.e_callA, Dl.cA1_s, Dl.cA2_r, Dl.cA2_x, Dl.cA2_b, Dl.cA2_if, Dl.di_0, Dl.di_d, Dl.so_d, Dl.so_s, Dl.di_s, Dl.di1_0, Dl.di1_d, Dl.at_d, Dl.at_s, Dl.arg1_o, Dl.arg1_l, Dl.arg1_b, Dl.ats_0, Dl.ats_S, Dl.oC_s, Dl.pu_0, Dl.pu_S, Dl.pu1_s, Dl.pu1_n, Dl.e_callV, Dl.cV1_s, Dl.cV2_s, Dl.s_seq, Dl.s_nx, Dl.s_bk, Dl.s_ct, Dl.s_expr, Dl.kX_e, Dl.s_asg, Dl.as1_s, Dl.s_ret, Dl.kRt_d, Dl.kRt_s, Dl.rt1_o, Dl.s_retNone, Dl.s_if, Dl.kIf_b, Dl.s_asgN, Dl.s_retN, Dl.aN_s, Dl.aN_r, Dl.rN_s, Dl.rN_r, Dl.aN_b, Dl.rN_b, Dl.aN_if, Dl.rN_if, Dl.s_asgG, Dl.g1_s, Dl.g2_s, Dl.aT_n, Dl.aT_p, Dl.aT_l, Dl.s_asgU, Dl.aU_s, Dl.aTs_0, Dl.aTs_n, Dl.s_asgR, Dl.gR_s, Dl.s_raise, Dl.rs1_s, Dl.s_try, Dl.tr1_r, Dl.tr1_n, Dl.tr1_x, Dl.tr1_b, Dl.tr1_if, Dl.un_r, Dl.un_x, Dl.un_b, Dl.un_if, Dl.e_isX, Dl.ix1_s, Dl.e_atX, Dl.ax1_s, Dl.e_newA, Dl.nA_ok, Dl.nA1_s, Dl.nA2_s, Dl.e_newL, Dl.nL_ok, Dl.nL_ex, Dl.nL_b, Dl.nL_if, Dl.nL1_s, Dl.e_me, Dl.me1_s, Dl.me3_s, Dl.e_ch, Dl.ch0_o, Dl.ch1_s, Dl.ch2_s, Dl.ch3_s, Dl.ch3_if, Dl.s_setIx, Dl.si1_s, Dl.si2_o, Dl.si3_s, Dl.si4_s, Dl.s_aug, Dl.ag1_d, Dl.ag2_s, Dl.ag3_s, Dl.s_for, Dl.fS_s, Dl.fS_if, Dl.fL_0, Dl.fL1_s, Dl.fL2_n, Dl.fL2_c, Dl.fL2_b, Dl.fL2_r, Dl.fL2_if, Dl.e_ixE, Dl.iE_l, Dl.iE_t, Dl.iE_s, Dl.iE2_b, Dl.e_ixR1, Dl.e_ixR2, Dl.kWh_t, Dl.kWh_f, Dl.wh1_n, Dl.wh1_c, Dl.wh1_b, Dl.wh1_r, Dl.e_backAt, Dl.bk1_b, Dl.bk_n, Dl.bk_b, Dl.bk_c, Dl.bk_r, Dl.bkO_s, Dl.bk_if, Dl.s_lock, Dl.lkS_o, Dl.lkS_d, Dl.lkS_b, Dl.bkN_s, Dl.bkN1_s, Dl.e_lockN, Dl.lkN_o, Dl.lkN_d, Dl.lkN_b, Dl.rst1_d, Dl.rst1_n, Dl.wp_0, Dl.wp_S, Dl.rd_0, Dl.rd_S, Dl.e_lcN, Dl.lcR1_s, Dl.lcR2_s, Dl.lc_0, Dl.lc1_s, Dl.lc2_b, Dl.lc3_s, Dl.lc4_s, Dl.ts_n, Dl.ts_s, Dl.fE_n, Dl.fE_r, Dl.fE_x, Dl.fE_b, Dl.fE_if, Dl.en_0, Dl.en_1, Dl.okT_d, Dl.okT_o, Dl.oRt_s, Dl.fE_of, Dl.kop1, Dl.kop2, Dl.kop2b, Dl.kopA, Dl.kTru, Dl.kFz, Dl.kAndV, Dl.kOrV, Dl.kch1, Dl.kch2, Dl.kTup, Dl.kLst, Dl.kSl, Dl.tdO, Dl.T.dat, Dl.fzO, Dl.kAs, Dl.kG, Dl.kU, Dl.kR, Dl.kRs, Dl.kMe, Dl.kMe2, Dl.kCh, Dl.kSi, Dl.kSi3, Dl.kAg, Dl.slO, Dl.uAt, Option.bind_some, Option.map_some, List.getElem?_cons_zero, List.getElem?_cons_succ, List.set_cons_zero, List.set_cons_succ, List.length_cons, List.length_nil, Bool.true_and, Bool.and_true, Bool.not_true, Bool.not_false, if_true, if_false, Bool.false_eq_true, decide_eq_true_eq, Nat.zero_add, Nat.reduceAdd, Nat.reduceLT, List.nil_append, List.cons_append, List.isEmpty_cons, List.isEmpty_nil, Dl.geq_i, Dl.it_l, Dl.gx_l, Dl.gx_t, Dl.at_0, Dl.at_1, Dl.at_2, Dl.at_3, Dl.at_4, Dl.at_5, Dl.at_6, Dl.at_7, Dl.at_8, Dl.at_9, Dl.tr_b, Dl.tr_i, Dl.tr_n, Dl.tr_l, Dl.tr_t, Dl.gadd_i, Dl.gsub_i, Dl.gneg_i, Dl.glt_i, Dl.gle_i, Dl.ggt_i, Dl.gge_i, Dl.gaddI_i, Dl.gne_i, Dl.glen_l, Dl.glen_t, Dl.gint_i, Dl.gmin2_i, Dl.gmax2_i, Dl.gmaxL_2, Dl.gminL_2, Dl.gabs_i, Dl.geq_s, Dl.gne_s, wordR]
      | bad => simp only [Dl.gd0, Dl.gdS, Dl.st0, Dl.stS, Dl.bd_ok, Dl.bd_ex, Dl.bd_bad, Dl.bd_if, Dl.bA_ok, Dl.bA_ex, Dl.bA_bad, Dl.bA_if, Dl.ou_ok, Dl.ou_ex, Dl.ou_bad, Dl.ou_if, Dl.sq_nx, Dl.sq_rt, Dl.sq_bk, Dl.sq_ct, Dl.sq_ex, Dl.sq_bad, Dl.sq_if, Dl.td_d, Dl.td_s, Dl.tds_0, Dl.tds_S, Dl.fz_d, Dl.fz_s, Dl.fzs_0, Dl.fzs_S, Dl.fz1_s, Dl.fz2_s, Dl.e_cst, Dl.e_var, Dl.var_d, Dl.var_own, Dl.var_bor, Dl.var_odk, Dl.var_odt, Dl.var_bdk, Dl.var_bdt, Dl.of_s, Dl.of_n, Dl.of_if, Dl.o1_s, Dl.o2_s, Dl.oA_s, Dl.e_op1, Dl.e_op2, Dl.ev_0, Dl.ev_S, Dl.evB_ok, Dl.evB_ex, Dl.evB_bad, Dl.evB_if, Dl.evC_ok, Dl.evC_ex, Dl.evC_bad, Dl.evC_if, Dl.e_opA, Dl.oTru_s, Dl.oTru2_s, Dl.e_tru, Dl.e_and, Dl.e_or, Dl.e_not, Dl.e_ifE, Dl.kAnd_b, Dl.kOr_b, Dl.kNot_b, Dl.kIfE_b, Dl.e_andV, Dl.e_orV, Dl.oAndV_b, Dl.oOrV_b, Dl.e_notV, Dl.e_chain, Dl.chn_1, Dl.chn_2, Dl.och0_s, Dl.och_b, Dl.e_tup, Dl.e_lst, Dl.oTup_s, Dl.oLst_s, Dl.e_frz, Dl.oFz_s, Dl.pt_0, Dl.pt_1, Dl.pOf_i, Dl.sl2_s, Dl.sl1_s, Dl.sl3_s, Dl.e_sl, Dl.e_ofN, Dl.oN_d, Dl.oN_own, Dl.oN_odk, Dl.oN_odt, Dl.oN_bor, Dl.oN_bdk, Dl.oN_bdt, Dl.oN_r, Dl.oN_n, Dl.oN_if, Dl.e_call, Dl.cN_ok, Dl.cN_ex, Dl.cN_bad, Dl.cN_if, Dl.e_callA, Dl.cA1_s, Dl.cA2_r, Dl.cA2_x, Dl.cA2_b, Dl.cA2_if, Dl.di_0, Dl.di_d, Dl.so_d, Dl.so_s, Dl.di_s, Dl.di1_0, Dl.di1_d, Dl.at_d, Dl.at_s, Dl.arg1_o, Dl.arg1_l, Dl.arg1_b, Dl.ats_0, Dl.ats_S, Dl.oC_s, Dl.pu_0, Dl.pu_S, Dl.pu1_s, Dl.pu1_n, Dl.e_callV, Dl.cV1_s, Dl.cV2_s, Dl.s_seq, Dl.s_nx, Dl.s_bk, Dl.s_ct, Dl.s_expr, Dl.kX_e, Dl.s_asg, Dl.as1_s, Dl.s_ret, Dl.kRt_d, Dl.kRt_s, Dl.rt1_o, Dl.s_retNone, Dl.s_if, Dl.kIf_b, Dl.s_asgN, Dl.s_retN, Dl.aN_s, Dl.aN_r, Dl.rN_s, Dl.rN_r, Dl.aN_b, Dl.rN_b, Dl.aN_if, Dl.rN_if, Dl.s_asgG, Dl.g1_s, Dl.g2_s, Dl.aT_n, Dl.aT_p, Dl.aT_l, Dl.s_asgU, Dl.aU_s, Dl.aTs_0, Dl.aTs_n, Dl.s_asgR, Dl.gR_s, Dl.s_raise, Dl.rs1_s, Dl.s_try, Dl.tr1_r, Dl.tr1_n, Dl.tr1_x, Dl.tr1_b, Dl.tr1_if, Dl.un_r, Dl.un_x, Dl.un_b, Dl.un_if, Dl.e_isX, Dl.ix1_s, Dl.e_atX, Dl.ax1_s, Dl.e_newA, Dl.nA_ok, Dl.nA1_s, Dl.nA2_s, Dl.e_newL, Dl.nL_ok, Dl.nL_ex, Dl.nL_b, Dl.nL_if, Dl.nL1_s, Dl.e_me, Dl.me1_s, Dl.me3_s, Dl.e_ch, Dl.ch0_o, Dl.ch1_s, Dl.ch2_s, Dl.ch3_s, Dl.ch3_if, Dl.s_setIx, Dl.si1_s, Dl.si2_o, Dl.si3_s, Dl.si4_s, Dl.s_aug, Dl.ag1_d, Dl.ag2_s, Dl.ag3_s, Dl.s_for, Dl.fS_s, Dl.fS_if, Dl.fL_0, Dl.fL1_s, Dl.fL2_n, Dl.fL2_c, Dl.fL2_b, Dl.fL2_r, Dl.fL2_if, Dl.e_ixE, Dl.iE_l, Dl.iE_t, Dl.iE_s, Dl.iE2_b, Dl.e_ixR1, Dl.e_ixR2, Dl.kWh_t, Dl.kWh_f, Dl.wh1_n, Dl.wh1_c, Dl.wh1_b, Dl.wh1_r, Dl.e_backAt, Dl.bk1_b, Dl.bk_n, Dl.bk_b, Dl.bk_c, Dl.bk_r, Dl.bkO_s, Dl.bk_if, Dl.s_lock, Dl.lkS_o, Dl.lkS_d, Dl.lkS_b, Dl.bkN_s, Dl.bkN1_s, Dl.e_lockN, Dl.lkN_o, Dl.lkN_d, Dl.lkN_b, Dl.rst1_d, Dl.rst1_n, Dl.wp_0, Dl.wp_S, Dl.rd_0, Dl.rd_S, Dl.e_lcN, Dl.lcR1_s, Dl.lcR2_s, Dl.lc_0, Dl.lc1_s, Dl.lc2_b, Dl.lc3_s, Dl.lc4_s, Dl.ts_n, Dl.ts_s, Dl.fE_n, Dl.fE_r, Dl.fE_x, Dl.fE_b, Dl.fE_if, Dl.en_0, Dl.en_1, Dl.okT_d, Dl.okT_o, Dl.oRt_s, Dl.fE_of, Dl.kop1, Dl.kop2, Dl.kop2b, Dl.kopA, Dl.kTru, Dl.kFz, Dl.kAndV, Dl.kOrV, Dl.kch1, Dl.kch2, Dl.kTup, Dl.kLst, Dl.kSl, Dl.tdO, Dl.T.dat, Dl.fzO, Dl.kAs, Dl.kG, Dl.kU, Dl.kR, Dl.kRs, Dl.kMe, Dl.kMe2, Dl.kCh, Dl.kSi, Dl.kSi3, Dl.kAg, Dl.slO, Dl.uAt, Option.bind_some, Option.map_some, List.getElem?_cons_zero, List.getElem?_cons_succ, List.set_cons_zero, List.set_cons_succ, List.length_cons, List.length_nil, Bool.true_and, Bool.and_true, Bool.not_true, Bool.not_false, if_true, if_false, Bool.false_eq_true, decide_eq_true_eq, Nat.zero_add, Nat.reduceAdd, Nat.reduceLT, List.nil_append, List.cons_append, List.isEmpty_cons, List.isEmpty_nil, Dl.geq_i, Dl.it_l, Dl.gx_l, Dl.gx_t, Dl.at_0, Dl.at_1, Dl.at_2, Dl.at_3, Dl.at_4, Dl.at_5, Dl.at_6, Dl.at_7, Dl.at_8, Dl.at_9, Dl.tr_b, Dl.tr_i, Dl.tr_n, Dl.tr_l, Dl.tr_t, Dl.gadd_i, Dl.gsub_i, Dl.gneg_i, Dl.glt_i, Dl.gle_i, Dl.ggt_i, Dl.gge_i, Dl.gaddI_i, Dl.gne_i, Dl.glen_l, Dl.glen_t, Dl.gint_i, Dl.gmin2_i, Dl.gmax2_i, Dl.gmaxL_2, Dl.gminL_2, Dl.gabs_i, Dl.geq_s, Dl.gne_s, wordR]
    · simp only [Dl.gd0, Dl.gdS, Dl.st0, Dl.stS, Dl.bd_ok, Dl.bd_ex, Dl.bd_bad, Dl.bd_if, Dl.bA_ok, Dl.bA_ex, Dl.bA_bad, Dl.bA_if, Dl.ou_ok, Dl.ou_ex, Dl.ou_bad, Dl.ou_if, Dl.sq_nx, Dl.sq_rt, Dl.sq_bk, Dl.sq_ct, Dl.sq_ex, Dl.sq_bad, Dl.sq_if, Dl.td_d, Dl.td_s, Dl.tds_0, Dl.tds_S, Dl.fz_d, Dl.fz_s, Dl.fzs_0, Dl.fzs_S, Dl.fz1_s, Dl.fz2_s, Dl.e_cst, Dl.e_var, Dl.var_d, Dl.var_own, Dl.var_bor, Dl.var_odk, Dl.var_odt, Dl.var_bdk, Dl.var_bdt, Dl.of_s, Dl.of_n, Dl.of_if, Dl.o1_s, Dl.o2_s, Dl.oA_s, Dl.e_op1, Dl.e_op2, Dl.ev_0, Dl.ev_S, Dl.evB_ok, Dl.evB_ex, Dl.evB_bad, Dl.evB_if, Dl.evC_ok, Dl.evC_ex, Dl.evC_bad, Dl.evC_if, Dl.e_opA, Dl.oTru_s, Dl.oTru2_s, Dl.e_tru, Dl.e_and, Dl.e_or, Dl.e_not, Dl.e_ifE, Dl.kAnd_b, Dl.kOr_b, Dl.kNot_b, Dl.kIfE_b, Dl.e_andV, Dl.e_orV, Dl.oAndV_b, Dl.oOrV_b, Dl.e_notV, Dl.e_chain, Dl.chn_1, Dl.chn_2, Dl.och0_s, Dl.och_b, Dl.e_tup, Dl.e_lst, Dl.oTup_s, Dl.oLst_s, Dl.e_frz, Dl.oFz_s, Dl.pt_0, Dl.pt_1, Dl.pOf_i, Dl.sl2_s, Dl.sl1_s, Dl.sl3_s, Dl.e_sl, Dl.e_ofN, Dl.oN_d, Dl.oN_own, Dl.oN_odk, Dl.oN_odt, Dl.oN_bor, Dl.oN_bdk, Dl.oN_bdt, Dl.oN_r, Dl.oN_n, Dl.oN_if, Dl.e_call, Dl.cN_ok, Dl.cN_ex, Dl.cN_bad, Dl.cN_if, Dl.e_callA, Dl.cA1_s, Dl.cA2_r, Dl.cA2_x, Dl.cA2_b, Dl.cA2_if, Dl.di_0, Dl.di_d, Dl.so_d, Dl.so_s, Dl.di_s, Dl.di1_0, Dl.di1_d, Dl.at_d, Dl.at_s, Dl.arg1_o, Dl.arg1_l, Dl.arg1_b, Dl.ats_0, Dl.ats_S, Dl.oC_s, Dl.pu_0, Dl.pu_S, Dl.pu1_s, Dl.pu1_n, Dl.e_callV, Dl.cV1_s, Dl.cV2_s, Dl.s_seq, Dl.s_nx, Dl.s_bk, Dl.s_ct, Dl.s_expr, Dl.kX_e, Dl.s_asg, Dl.as1_s, Dl.s_ret, Dl.kRt_d, Dl.kRt_s, Dl.rt1_o, Dl.s_retNone, Dl.s_if, Dl.kIf_b, Dl.s_asgN, Dl.s_retN, Dl.aN_s, Dl.aN_r, Dl.rN_s, Dl.rN_r, Dl.aN_b, Dl.rN_b, Dl.aN_if, Dl.rN_if, Dl.s_asgG, Dl.g1_s, Dl.g2_s, Dl.aT_n, Dl.aT_p, Dl.aT_l, Dl.s_asgU, Dl.aU_s, Dl.aTs_0, Dl.aTs_n, Dl.s_asgR, Dl.gR_s, Dl.s_raise, Dl.rs1_s, Dl.s_try, Dl.tr1_r, Dl.tr1_n, Dl.tr1_x, Dl.tr1_b, Dl.tr1_if, Dl.un_r, Dl.un_x, Dl.un_b, Dl.un_if, Dl.e_isX, Dl.ix1_s, Dl.e_atX, Dl.ax1_s, Dl.e_newA, Dl.nA_ok, Dl.nA1_s, Dl.nA2_s, Dl.e_newL, Dl.nL_ok, Dl.nL_ex, Dl.nL_b, Dl.nL_if, Dl.nL1_s, Dl.e_me, Dl.me1_s, Dl.me3_s, Dl.e_ch, Dl.ch0_o, Dl.ch1_s, Dl.ch2_s, Dl.ch3_s, Dl.ch3_if, Dl.s_setIx, Dl.si1_s, Dl.si2_o, Dl.si3_s, Dl.si4_s, Dl.s_aug, Dl.ag1_d, Dl.ag2_s, Dl.ag3_s, Dl.s_for, Dl.fS_s, Dl.fS_if, Dl.fL_0, Dl.fL1_s, Dl.fL2_n, Dl.fL2_c, Dl.fL2_b, Dl.fL2_r, Dl.fL2_if, Dl.e_ixE, Dl.iE_l, Dl.iE_t, Dl.iE_s, Dl.iE2_b, Dl.e_ixR1, Dl.e_ixR2, Dl.kWh_t, Dl.kWh_f, Dl.wh1_n, Dl.wh1_c, Dl.wh1_b, Dl.wh1_r, Dl.e_backAt, Dl.bk1_b, Dl.bk_n, Dl.bk_b, Dl.bk_c, Dl.bk_r, Dl.bkO_s, Dl.bk_if, Dl.s_lock, Dl.lkS_o, Dl.lkS_d, Dl.lkS_b, Dl.bkN_s, Dl.bkN1_s, Dl.e_lockN, Dl.lkN_o, Dl.lkN_d, Dl.lkN_b, Dl.rst1_d, Dl.rst1_n, Dl.wp_0, Dl.wp_S, Dl.rd_0, Dl.rd_S, Dl.e_lcN, Dl.lcR1_s, Dl.lcR2_s, Dl.lc_0, Dl.lc1_s, Dl.lc2_b, Dl.lc3_s, Dl.lc4_s, Dl.ts_n, Dl.ts_s, Dl.fE_n, Dl.fE_r, Dl.fE_x, Dl.fE_b, Dl.fE_if, Dl.en_0, Dl.en_1, Dl.okT_d, Dl.okT_o, Dl.oRt_s, Dl.fE_of, Dl.kop1, Dl.kop2, Dl.kop2b, Dl.kopA, Dl.kTru, Dl.kFz, Dl.kAndV, Dl.kOrV, Dl.kch1, Dl.kch2, Dl.kTup, Dl.kLst, Dl.kSl, Dl.tdO, Dl.T.dat, Dl.fzO, Dl.kAs, Dl.kG, Dl.kU, Dl.kR, Dl.kRs, Dl.kMe, Dl.kMe2, Dl.kCh, Dl.kSi, Dl.kSi3, Dl.kAg, Dl.slO, Dl.uAt, Option.bind_some, Option.map_some, List.getElem?_cons_zero, List.getElem?_cons_succ, List.set_cons_zero, List.set_cons_succ, List.length_cons, List.length_nil, Bool.true_and, Bool.and_true, Bool.not_true, Bool.not_false, if_true, if_false, Bool.false_eq_true, decide_eq_true_eq, Nat.zero_add, Nat.reduceAdd, Nat.reduceLT, List.nil_append, List.cons_append, List.isEmpty_cons, List.isEmpty_nil, Dl.geq_i, Dl.it_l, Dl.gx_l, Dl.gx_t, Dl.at_0, Dl.at_1, Dl.at_2, Dl.at_3, Dl.at_4, Dl.at_5, Dl.at_6, Dl.at_7, Dl.at_8, Dl.at_9, Dl.tr_b, Dl.tr_i, Dl.tr_n, Dl.tr_l, Dl.tr_t, Dl.gadd_i, Dl.gsub_i, Dl.gneg_i, Dl.glt_i, Dl.gle_i, Dl.ggt_i, Dl.gge_i, Dl.gaddI_i, Dl.gne_i, Dl.glen_l, Dl.glen_t, Dl.gint_i, Dl.gmin2_i, Dl.gmax2_i, Dl.gmaxL_2, Dl.gminL_2, Dl.gabs_i, Dl.geq_s, Dl.gne_s, ht, g1, g2, h, askR, hc]
  | bad => simp only [Dl.gd0, Dl.gdS, Dl.st0, Dl.stS, Dl.bd_ok, Dl.bd_ex, Dl.bd_bad, Dl.bd_if, Dl.bA_ok, Dl.bA_ex, Dl.bA_bad, Dl.bA_if, Dl.ou_ok, Dl.ou_ex, Dl.ou_bad, Dl.ou_if, Dl.sq_nx, Dl.sq_rt, Dl.sq_bk, Dl.sq_ct, Dl.sq_ex, Dl.sq_bad, Dl.sq_if, Dl.td_d, Dl.td_s, Dl.tds_0, Dl.tds_S, Dl.fz_d, Dl.fz_s, Dl.fzs_0, Dl.fzs_S, Dl.fz1_s, Dl.fz2_s, Dl.e_cst, Dl.e_var, Dl.var_d, Dl.var_own, Dl.var_bor, Dl.var_odk, Dl.var_odt, Dl.var_bdk, Dl.var_bdt, Dl.of_s, Dl.of_n, Dl.of_if, Dl.o1_s, Dl.o2_s, Dl.oA_s, Dl.e_op1, Dl.e_op2, Dl.ev_0, Dl.ev_S, Dl.evB_ok, Dl.evB_ex, Dl.evB_bad, Dl.evB_if, Dl.evC_ok, Dl.evC_ex, Dl.evC_bad, Dl.evC_if, Dl.e_opA, Dl.oTru_s, Dl.oTru2_s, Dl.e_tru, Dl.e_and, Dl.e_or, Dl.e_not, Dl.e_ifE, Dl.kAnd_b, Dl.kOr_b, Dl.kNot_b, Dl.kIfE_b, Dl.e_andV, Dl.e_orV, Dl.oAndV_b, Dl.oOrV_b, Dl.e_notV, Dl.e_chain, Dl.chn_1, Dl.chn_2, Dl.och0_s, Dl.och_b, Dl.e_tup, Dl.e_lst, Dl.oTup_s, Dl.oLst_s, Dl.e_frz, Dl.oFz_s, Dl.pt_0, Dl.pt_1, Dl.pOf_i, Dl.sl2_s, Dl.sl1_s, Dl.sl3_s, Dl.e_sl, Dl.e_ofN, Dl.oN_d, Dl.oN_own, Dl.oN_odk, Dl.oN_odt, Dl.oN_bor, Dl.oN_bdk, Dl.oN_bdt, Dl.oN_r, Dl.oN_n, Dl.oN_if, Dl.e_call, Dl.cN_ok, Dl.cN_ex, Dl.cN_bad, Dl.cN_if, Dl.e_callA, Dl.cA1_s, Dl.cA2_r, Dl.cA2_x, Dl.cA2_b, Dl.cA2_if, Dl.di_0, Dl.di_d, Dl.so_d, Dl.so_s, Dl.di_s, Dl.di1_0, Dl.di1_d, Dl.at_d, Dl.at_s, Dl.arg1_o, Dl.arg1_l, Dl.arg1_b, Dl.ats_0, Dl.ats_S, Dl.oC_s, Dl.pu_0, Dl.pu_S, Dl.pu1_s, Dl.pu1_n, Dl.e_callV, Dl.cV1_s, Dl.cV2_s, Dl.s_seq, Dl.s_nx, Dl.s_bk, Dl.s_ct, Dl.s_expr, Dl.kX_e, Dl.s_asg, Dl.as1_s, Dl.s_ret, Dl.kRt_d, Dl.kRt_s, Dl.rt1_o, Dl.s_retNone, Dl.s_if, Dl.kIf_b, Dl.s_asgN, Dl.s_retN, Dl.aN_s, Dl.aN_r, Dl.rN_s, Dl.rN_r, Dl.aN_b, Dl.rN_b, Dl.aN_if, Dl.rN_if, Dl.s_asgG, Dl.g1_s, Dl.g2_s, Dl.aT_n, Dl.aT_p, Dl.aT_l, Dl.s_asgU, Dl.aU_s, Dl.aTs_0, Dl.aTs_n, Dl.s_asgR, Dl.gR_s, Dl.s_raise, Dl.rs1_s, Dl.s_try, Dl.tr1_r, Dl.tr1_n, Dl.tr1_x, Dl.tr1_b, Dl.tr1_if, Dl.un_r, Dl.un_x, Dl.un_b, Dl.un_if, Dl.e_isX, Dl.ix1_s, Dl.e_atX, Dl.ax1_s, Dl.e_newA, Dl.nA_ok, Dl.nA1_s, Dl.nA2_s, Dl.e_newL, Dl.nL_ok, Dl.nL_ex, Dl.nL_b, Dl.nL_if, Dl.nL1_s, Dl.e_me, Dl.me1_s, Dl.me3_s, Dl.e_ch, Dl.ch0_o, Dl.ch1_s, Dl.ch2_s, Dl.ch3_s, Dl.ch3_if, Dl.s_setIx, Dl.si1_s, Dl.si2_o, Dl.si3_s, Dl.si4_s, Dl.s_aug, Dl.ag1_d, Dl.ag2_s, Dl.ag3_s, Dl.s_for, Dl.fS_s, Dl.fS_if, Dl.fL_0, Dl.fL1_s, Dl.fL2_n, Dl.fL2_c, Dl.fL2_b, Dl.fL2_r, Dl.fL2_if, Dl.e_ixE, Dl.iE_l, Dl.iE_t, Dl.iE_s, Dl.iE2_b, Dl.e_ixR1, Dl.e_ixR2, Dl.kWh_t, Dl.kWh_f, Dl.wh1_n, Dl.wh1_c, Dl.wh1_b, Dl.wh1_r, Dl.e_backAt, Dl.bk1_b, Dl.bk_n, Dl.bk_b, Dl.bk_c, Dl.bk_r, Dl.bkO_s, Dl.bk_if, Dl.s_lock, Dl.lkS_o, Dl.lkS_d, Dl.lkS_b, Dl.bkN_s, Dl.bkN1_s, Dl.e_lockN, Dl.lkN_o, Dl.lkN_d, Dl.lkN_b, Dl.rst1_d, Dl.rst1_n, Dl.wp_0, Dl.wp_S, Dl.rd_0, Dl.rd_S, Dl.e_lcN, Dl.lcR1_s, Dl.lcR2_s, Dl.lc_0, Dl.lc1_s, Dl.lc2_b, Dl.lc3_s, Dl.lc4_s, Dl.ts_n, Dl.ts_s, Dl.fE_n, Dl.fE_r, Dl.fE_x, Dl.fE_b, Dl.fE_if, Dl.en_0, Dl.en_1, Dl.okT_d, Dl.okT_o, Dl.oRt_s, Dl.fE_of, Dl.kop1, Dl.kop2, Dl.kop2b, Dl.kopA, Dl.kTru, Dl.kFz, Dl.kAndV, Dl.kOrV, Dl.kch1, Dl.kch2, Dl.kTup, Dl.kLst, Dl.kSl, Dl.tdO, Dl.T.dat, Dl.fzO, Dl.kAs, Dl.kG, Dl.kU, Dl.kR, Dl.kRs, Dl.kMe, Dl.kMe2, Dl.kCh, Dl.kSi, Dl.kSi3, Dl.kAg, Dl.slO, Dl.uAt, Option.bind_some, Option.map_some, List.getElem?_cons_zero, List.getElem?_cons_succ, List.set_cons_zero, List.set_cons_succ, List.length_cons, List.length_nil, Bool.true_and, Bool.and_true, Bool.not_true, Bool.not_false, if_true, if_false, Bool.false_eq_true, decide_eq_true_eq, Nat.zero_add, Nat.reduceAdd, Nat.reduceLT, List.nil_append, List.cons_append, List.isEmpty_cons, List.isEmpty_nil, Dl.geq_i, Dl.it_l, Dl.gx_l, Dl.gx_t, Dl.at_0, Dl.at_1, Dl.at_2, Dl.at_3, Dl.at_4, Dl.at_5, Dl.at_6, Dl.at_7, Dl.at_8, Dl.at_9, Dl.tr_b, Dl.tr_i, Dl.tr_n, Dl.tr_l, Dl.tr_t, Dl.gadd_i, Dl.gsub_i, Dl.gneg_i, Dl.glt_i, Dl.gle_i, Dl.ggt_i, Dl.gge_i, Dl.gaddI_i, Dl.gne_i, Dl.glen_l, Dl.glen_t, Dl.gint_i, Dl.gmin2_i, Dl.gmax2_i, Dl.gmaxL_2, Dl.gminL_2, Dl.gabs_i, Dl.geq_s, Dl.gne_s, ht, g1, g2, h, askR]
/-! ### what is equal and shown alike is the same -/
mutual
def nb : D → Bool
  | .none => true
  | .bool _ => false
  | .int _ => true
  | .str _ => true
  | .list l => nbs l
  | .tuple l => nbs l
  | .dict _ => false
def nbs : List D → Bool
  | [] => true
  | x :: l => nb x && nbs l
end
def sumL (ts : List Str) : Nat := (ts.map Str.length).sum
theorem sumL_cons {t : Str} {ts : List Str} : sumL (t :: ts) = t.length + sumL ts := by simp [sumL]
theorem textFrom_l : ∀ (ts : List Str) (k : Nat) (acc : Str), (PySem.textFrom (k + 1) acc ts).length = acc.length + sumL ts + 2 * ts.length
  | [], k, acc => by simp [PySem.textFrom, sumL]
  | t :: ts, k, acc => by
    have h2 : Str.length ", " = 2 := by decide
    rw [PySem.textFrom, textFrom_l ts, if_pos (by omega), PySem.Str.length_append, PySem.Str.length_append, sumL_cons, List.length_cons]
    show acc.length + Str.length ", " + _ + _ + _ = _
    omega
theorem listT_len : ∀ ts : List Str, (PySem.listText ts).length = sumL ts + 2 * (ts.length - 1) + 2
  | [] => by decide
  | t :: ts => by
    have h1 : Str.length "[" = 1 := by decide
    have h2 : Str.length "]" = 1 := by decide
    have h3 : Str.length "" = 0 := by decide
    unfold PySem.listText
    rw [PySem.textFrom, PySem.Str.length_append, textFrom_l, if_neg (by omega), PySem.Str.length_append, PySem.Str.length_append, sumL_cons, List.length_cons]
    show Str.length "[" + Str.length "" + _ + _ + _ + Str.length "]" = _
    omega
theorem piled_l : ∀ ts : List Str, PySem.piled ts = sumL ts + 2 * ts.length
  | [] => rfl
  | t :: ts => by rw [PySem.piled_cons, piled_l ts, sumL_cons, List.length_cons]; omega
theorem tupT_len (ts : List Str) : (PySem.tupleText ts).length = sumL ts + 2 * (ts.length - 1) + 2 + (if ts.length = 1 then 1 else 0) := by
  have h1 : Str.length "(" = 1 := by decide
  have h2 : Str.length ")" = 1 := by decide
  have h3 : Str.length ",)" = 2 := by decide
  unfold PySem.tupleText
  rw [PySem.Str.length_append, PySem.Str.length_append]
  show Str.length "(" + _ + _ = _
  cases ts with
  | nil => decide
  | cons t ts =>
    have hj := PySem.join_length_add (t :: ts) (by simp)
    rw [piled_l] at hj
    by_cases h : (t :: ts).length = 1
    · rw [if_pos h, if_pos (by simpa using h)]
      show _ + _ + Str.length ",)" = _
      omega
    · rw [if_neg h, if_neg (by simpa using h)]
      show _ + _ + Str.length ")" = _
      rw [List.length_cons] at *
      omega
theorem len_1 : (PyData.int 1).shown.length = 1 := by simp only [PyData.shown]; decide +kernel
theorem len_0 : (PyData.int 0).shown.length = 1 := by simp only [PyData.shown]; decide +kernel
theorem len_T : (PyData.bool true).shown.length = 4 := by simp only [PyData.shown]; decide +kernel
theorem len_F : (PyData.bool false).shown.length = 5 := by simp only [PyData.shown]; decide +kernel
mutual
theorem eqv_longer : ∀ (y x : D), nb y = true → PyData.eqv x y = true → x = y ∨ y.shown.length < x.shown.length
  | .none, x, _, h => by cases x <;> simp only [PyData.eqv] at h <;> first | exact .inl rfl | cases h
  | .bool _, _, hn, _ => by simp [nb] at hn
  | .dict _, _, hn, _ => by simp [nb] at hn
  | .str z, x, _, h => by
    cases x <;> simp only [PyData.eqv] at h <;> first | (left; rw [eq_of_beq h]) | cases h
  | .int i, x, _, h => by
    cases x <;> simp only [PyData.eqv] at h <;> first | (left; rw [eq_of_beq h]; done) | (cases h; done) | skip
    rename_i b
    right
    have h := eq_of_beq h
    subst h
    cases b
    · show (PyData.int 0).shown.length < _
      rw [len_0, len_F]; omega
    · show (PyData.int 1).shown.length < _
      rw [len_1, len_T]; omega
  | .list ys, x, hn, h => by
    cases x with
    | list xs =>
      simp only [PyData.eqv] at h
      simp only [nb] at hn
      obtain ⟨h1, h2⟩ := eqvs_longer ys xs hn h
      rcases h2 with rfl | h2
      · exact .inl rfl
      · right
        simp only [PyData.shown, listT_len, h1]
        omega
    | _ => simp only [PyData.eqv] at h; cases h
  | .tuple ys, x, hn, h => by
    cases x with
    | tuple xs =>
      simp only [PyData.eqv] at h
      simp only [nb] at hn
      obtain ⟨h1, h2⟩ := eqvs_longer ys xs hn h
      rcases h2 with rfl | h2
      · exact .inl rfl
      · right
        simp only [PyData.shown, tupT_len, h1]
        omega
    | _ => simp only [PyData.eqv] at h; cases h
theorem eqvs_longer : ∀ (ys xs : List D), nbs ys = true → PyData.eqvAll xs ys = true → (PyData.shownAll xs).length = (PyData.shownAll ys).length ∧ (xs = ys ∨ sumL (PyData.shownAll ys) < sumL (PyData.shownAll xs))
  | [], xs, _, h => by
    cases xs with
    | nil => exact ⟨rfl, .inl rfl⟩
    | cons _ _ => simp only [PyData.eqvAll] at h; cases h
  | y :: ys, xs, hn, h => by
    cases xs with
    | nil => simp only [PyData.eqvAll] at h; cases h
    | cons x xs =>
      simp only [PyData.eqvAll, Bool.and_eq_true] at h
      simp only [nbs, Bool.and_eq_true] at hn
      have a := eqv_longer y x hn.1 h.1
      obtain ⟨b1, b2⟩ := eqvs_longer ys xs hn.2 h.2
      simp only [PyData.shownAll, List.length_cons, sumL_cons]
      refine ⟨by omega, ?_⟩
      rcases a with rfl | a
      · rcases b2 with rfl | b2
        · exact .inl rfl
        · exact .inr (by omega)
      · rcases b2 with rfl | b2
        · exact .inr (by omega)
        · exact .inr (by omega)
end
/-- equal and shown alike: the same, where the one has no booleans -/
theorem same_of {x y : D} (hn : nb y = true) (h : PyData.eqv x y = true) (h2 : x.shown = y.shown) : x = y := by
  rcases eqv_longer y x hn h with e | e
  · exact e
  · rw [h2] at e; omega
noncomputable def sameD (x y : D) : Bool := @decide (x = y) (Classical.propDecidable _)
theorem sameD_t {x y : D} : sameD x y = true ↔ x = y := by unfold sameD; exact @decide_eq_true_iff _ (Classical.propDecidable _)
theorem sameD_f {x y : D} : sameD x y = false ↔ x ≠ y := by unfold sameD; exact @decide_eq_false_iff_not _ (Classical.propDecidable _)
theorem same_iff {x y : D} {n : Nat} (hl : lay n y = true) (hn : nb y = true) : (PyData.eqv x y && (x.shown == y.shown)) = sameD x y := by
  by_cases e : x = y
  · subst e
    rw [eqv_refl x n hl, sameD_t.mpr rfl]
    simp
  · rw [sameD_f.mpr e]
    by_cases h : PyData.eqv x y = true
    · rw [h, Bool.true_and]
      by_cases h2 : x.shown = y.shown
      · exact absurd (same_of hn h h2) e
      · simpa using h2
    · simp [h]
/-! ### bounded data -/
mutual
def bd (M : Int) : D → Bool
  | .none => true
  | .bool _ => true
  | .int i => decide (-M ≤ i) && decide (i ≤ M)
  | .str x => PyData.strOk x
  | .list l => bds M l
  | .tuple l => bds M l
  | .dict _ => false
def bds (M : Int) : List D → Bool
  | [] => true
  | x :: l => bd M x && bds M l
end
theorem bds_iff {M : Int} : ∀ {l : List D}, bds M l = true ↔ ∀ x ∈ l, bd M x = true
  | [] => by simp [bds]
  | x :: l => by simp only [bds, Bool.and_eq_true, bds_iff (l := l), List.mem_cons, forall_eq_or_imp]
mutual
theorem bd_up : ∀ {x : D} {M K : Int}, M ≤ K → bd M x = true → bd K x = true
  | .none, _, _, _, _ => by simp only [bd]
  | .bool _, _, _, _, _ => by simp only [bd]
  | .int i, _, _, _, h => by simp only [bd, Bool.and_eq_true, decide_eq_true_eq] at h ⊢; omega
  | .str x, _, _, _, h => by simp only [bd] at h ⊢; exact h
  | .list l, _, _, hm, h => by simp only [bd] at h ⊢; exact bds_up hm h
  | .tuple l, _, _, hm, h => by simp only [bd] at h ⊢; exact bds_up hm h
  | .dict l, _, _, _, h => by simp [bd] at h
theorem bds_up : ∀ {l : List D} {M K : Int}, M ≤ K → bds M l = true → bds K l = true
  | [], _, _, _, _ => by simp only [bds]
  | x :: l, _, _, hm, h => by
    simp only [bds, Bool.and_eq_true] at h ⊢
    exact ⟨bd_up hm h.1, bds_up hm h.2⟩
end
mutual
theorem bd_rok : ∀ {x : D} {M : Int}, M < 10 ^ 45 → bd M x = true → rok x = true
  | .none, _, _, _ => by simp only [rok]
  | .bool _, _, _, _ => by simp only [rok]
  | .int i, M, hm, h => by
    simp only [bd, Bool.and_eq_true, decide_eq_true_eq] at h
    show decide _ = true
    exact decide_eq_true ⟨by omega, by omega⟩
  | .str x, _, _, h => by simp only [bd] at h; simp only [rok]; exact h
  | .list l, _, hm, h => by simp only [bd] at h; simp only [rok]; exact bds_roks hm h
  | .tuple l, _, hm, h => by simp only [bd] at h; simp only [rok]; exact bds_roks hm h
  | .dict l, _, _, h => by simp [bd] at h
theorem bds_roks : ∀ {l : List D} {M : Int}, M < 10 ^ 45 → bds M l = true → roks l = true
  | [], _, _, _ => by simp only [roks]
  | x :: l, _, hm, h => by
    simp only [bds, Bool.and_eq_true] at h
    simp only [roks, Bool.and_eq_true]
    exact ⟨bd_rok hm h.1, bds_roks hm h.2⟩
end
/-- laid n deep, numbers within M, at most B shown -/
def GV (n B : Nat) (M : Int) (x : D) : Prop := lay n x = true ∧ bd M x = true ∧ rsz x ≤ B
theorem gv_up {n m B C : Nat} {M K : Int} {x : D} (hn : n ≤ m) (hB : B ≤ C) (hM : M ≤ K) (h : GV n B M x) : GV m C K x := ⟨lay_up hn h.1, bd_up hM h.2.1, Nat.le_trans h.2.2 hB⟩
theorem rszs_mem : ∀ {l : List D} {x : D}, x ∈ l → rsz x + 2 ≤ rszs l
  | [], x, h => by simp at h
  | y :: l, x, h => by
    rw [rszs]
    rcases List.mem_cons.mp h with rfl | h
    · omega
    · have := rszs_mem h; omega
theorem rszs_app : ∀ {l m : List D}, rszs (l ++ m) = rszs l + rszs m
  | [], m => by simp [rszs]
  | x :: l, m => by rw [List.cons_append, rszs, rszs, rszs_app]; omega
theorem rszs_len : ∀ {l : List D}, 2 * l.length ≤ rszs l
  | [] => by simp
  | x :: l => by rw [rszs, List.length_cons]; have := rszs_len (l := l); omega
theorem rszs_rev : ∀ {l : List D}, rszs l.reverse = rszs l
  | [] => rfl
  | x :: l => by rw [List.reverse_cons, rszs_app, rszs_rev, rszs, rszs, rszs]; omega
theorem rszs_le {B : Nat} : ∀ {l : List D}, (∀ x ∈ l, rsz x ≤ B) → rszs l ≤ l.length * (B + 2)
  | [], _ => by simp [rszs]
  | y :: l, h => by
    have h1 := h y (List.mem_cons_self ..)
    have := rszs_le (l := l) fun y hy => h y (List.mem_cons_of_mem _ hy)
    rw [rszs, List.length_cons, Nat.add_mul, Nat.one_mul]
    omega
theorem lays_iff {n : Nat} {l : List D} : lays n l = true ↔ ∀ x ∈ l, lay n x = true := ⟨fun h x hx => lays_mem h x hx, lays_of⟩
theorem gv_t {n B : Nat} {M : Int} {l : List D} : GV (n + 1) B M (.tuple l) ↔ (∀ x ∈ l, lay n x = true ∧ bd M x = true) ∧ rszs l + 3 ≤ B := by
  unfold GV
  have e1 : lay (n + 1) (.tuple l) = lays n l := by simp only [lay]
  have e2 : bd M (.tuple l) = bds M l := by simp only [bd]
  have e3 : rsz (.tuple l) = rszs l + 3 := by simp only [rsz]
  rw [e1, e2, e3, lays_iff, bds_iff]
  constructor
  · rintro ⟨a, b, c⟩; exact ⟨fun x hx => ⟨a x hx, b x hx⟩, c⟩
  · rintro ⟨a, c⟩; exact ⟨fun x hx => (a x hx).1, fun x hx => (a x hx).2, c⟩
theorem gv_l {n B : Nat} {M : Int} {l : List D} : GV (n + 1) B M (.list l) ↔ (∀ x ∈ l, lay n x = true ∧ bd M x = true) ∧ rszs l + 3 ≤ B := by
  unfold GV
  have e1 : lay (n + 1) (.list l) = lays n l := by simp only [lay]
  have e2 : bd M (.list l) = bds M l := by simp only [bd]
  have e3 : rsz (.list l) = rszs l + 3 := by simp only [rsz]
  rw [e1, e2, e3, lays_iff, bds_iff]
  constructor
  · rintro ⟨a, b, c⟩; exact ⟨fun x hx => ⟨a x hx, b x hx⟩, c⟩
  · rintro ⟨a, c⟩; exact ⟨fun x hx => (a x hx).1, fun x hx => (a x hx).2, c⟩
theorem gv_tm {n B : Nat} {M : Int} {l : List D} (h : GV n B M (.tuple l)) : ∃ m, n = m + 1 ∧ ∀ x ∈ l, GV m (B - 5) M x ∧ rsz x + 5 ≤ B := by
  obtain ⟨m, rfl, _⟩ := lay_t h.1
  refine ⟨m, rfl, fun x hx => ?_⟩
  rw [gv_t] at h
  have := rszs_mem hx
  exact ⟨⟨(h.1 x hx).1, (h.1 x hx).2, by omega⟩, by omega⟩
theorem gv_ti {n B k : Nat} {M : Int} {l : List D} (hk : l.length ≤ k) (h : ∀ x ∈ l, GV n B M x) : GV (n + 1) (k * (B + 2) + 3) M (.tuple l) := by
  rw [gv_t]
  have := rszs_le (l := l) (B := B) fun x hx => (h x hx).2.2
  have : l.length * (B + 2) ≤ k * (B + 2) := Nat.mul_le_mul_right _ hk
  exact ⟨fun x hx => ⟨(h x hx).1, (h x hx).2.1⟩, by omega⟩
theorem gv_li {n B k : Nat} {M : Int} {l : List D} (hk : l.length ≤ k) (h : ∀ x ∈ l, GV n B M x) : GV (n + 1) (k * (B + 2) + 3) M (.list l) := by
  rw [gv_l]
  have := rszs_le (l := l) (B := B) fun x hx => (h x hx).2.2
  have : l.length * (B + 2) ≤ k * (B + 2) := Nat.mul_le_mul_right _ hk
  exact ⟨fun x hx => ⟨(h x hx).1, (h x hx).2.1⟩, by omega⟩
theorem gv_i {M i : Int} (h1 : -M ≤ i) (h2 : i ≤ M) : GV 0 47 M (.int i) := ⟨by simp only [lay], by simp only [bd, Bool.and_eq_true, decide_eq_true_eq]; exact ⟨h1, h2⟩, by simp only [rsz]; omega⟩
theorem gv_n {M : Int} : GV 0 4 M .none := ⟨by simp only [lay], by simp only [bd], by simp only [rsz]; omega⟩
theorem gv_b {M : Int} {b : Bool} : GV 0 5 M (.bool b) := ⟨by simp only [lay], by simp only [bd], by simp only [rsz]; omega⟩
theorem gv_same {n B : Nat} {M : Int} {x : D} (h : GV n B M x) (hn : n ≤ 64) (hB : B ≤ 16777216) (hM : M < 10 ^ 45) : m__law_same [.d x, .d x] = .ret (.d (.bool true)) [] :=
  v_same rfl (lay_up hn h.1) (bd_rok hM h.2.1) (Nat.le_trans h.2.2 hB)
theorem gv_repr {n B : Nat} {M : Int} {x : D} (h : GV n B M x) (hn : n ≤ 64) (hB : B ≤ 16777216) (hM : M < 10 ^ 45) : gRepr [x] = some (.str x.shown) :=
  gRepr_lay (lay_up hn h.1) (bd_rok hM h.2.1) (Nat.le_trans h.2.2 hB)
theorem gv_eq {n B m C : Nat} {M K : Int} {x y : D} (h : GV n B M x) (h2 : GV m C K y) (hn : n ≤ 64) (hm : m ≤ 64) : gEq x y = some (.bool (PyData.eqv x y)) := gEq_lay (lay_up hn h.1) (lay_up hm h2.1)
theorem gv_ne {n B m C : Nat} {M K : Int} {x y : D} (h : GV n B M x) (h2 : GV m C K y) (hn : n ≤ 64) (hm : m ≤ 64) : gNe x y = some (.bool (!PyData.eqv x y)) := gNe_lay (lay_up hn h.1) (lay_up hm h2.1)
theorem cut_to {l : List D} {i : Nat} (h : i ≤ l.length) : cutD l none (some (i : Int)) = l.take i := by
  unfold cutD
  rw [HT.sIx_none, HT.sIx_nat, Nat.min_eq_left h, List.drop_zero, Nat.sub_zero]
theorem cut_from {l : List D} {i : Nat} (h : i ≤ l.length) : cutD l (some (i : Int)) none = l.drop i := by
  unfold cutD
  rw [HT.sIx_none, HT.sIx_nat, Nat.min_eq_left h]
  exact List.take_of_length_le (by rw [List.length_drop]; omega)
theorem gsl_t {l : List D} {a b : Option Int} : gSl (.tuple l) a b = some (.tuple (cutD l a b)) := rfl
theorem cut_mid {l : List D} {i j : Nat} (hi : i ≤ l.length) (hj : j ≤ l.length) : cutD l (some (i : Int)) (some (j : Int)) = (l.drop i).take (j - i) := by
  unfold cutD
  rw [HT.sIx_nat, HT.sIx_nat, Nat.min_eq_left hi, Nat.min_eq_left hj]
/-! ### numbers, lists -/
theorem at_last {l : List D} {x : D} : atI (l ++ [x]) (-1) = some x := by
  unfold L2.atI ixN
  have e1 : ((l ++ [x]).length : Int) = (l.length : Int) + 1 := by simp
  rw [if_neg (by omega), if_pos (by omega), e1]
  have e2 : ((-1 : Int) + ((l.length : Int) + 1)).toNat = l.length := by omega
  show (l ++ [x])[((-1 : Int) + ((l.length : Int) + 1)).toNat]? = some x
  rw [e2]
  simp
theorem capp {l : List D} {x : D} (h : l.length < 16777216) : cAppend l [x] = some (.none, l ++ [x]) := by
  simp only [cAppend, h, if_true]
theorem gmul_repL {l : List D} {n : Nat} (h : l.length * n ≤ 16777216) (hn : n ≤ 1000000) : gMul (.list l) (.int (n : Int)) = some (.list (List.replicate n l).flatten) := by
  have e : ((n : Int)).toNat = n := Int.toNat_natCast n
  simp only [gMul, e]
  exact cif_pos ⟨by omega, by omega, h⟩
theorem gmul_repT {l : List D} {n : Nat} (h0 : l ≠ []) (h : l.length ≤ 1000) (hn : n ≤ 1000) : gMul (.tuple l) (.int (n : Int)) = some (.tuple (List.replicate n l).flatten) := by
  have e : ((n : Int)).toNat = n := Int.toNat_natCast n
  simp only [gMul, e]
  exact cif_pos ⟨h0, by omega, by omega, h⟩
theorem gadd_l {l m : List D} (h : l.length + m.length ≤ 16777216) : gAdd (.list l) (.list m) = some (.list (l ++ m)) := by
  simp only [gAdd, h, if_true]
theorem gadd_t {l m : List D} (h : l.length + m.length ≤ 16777216) : gAdd (.tuple l) (.tuple m) = some (.tuple (l ++ m)) := by
  simp only [gAdd, h, if_true]
theorem gix_last {l : List D} {x : D} : gIx (.list (l ++ [x])) (.int (-1)) = some x := at_last
theorem gix_lastT {l : List D} {x : D} : gIx (.tuple (l ++ [x])) (.int (-1)) = some x := at_last
theorem cut_last {l : List D} : cutD l none (some (-1)) = l.take (l.length - 1) := by
  unfold cutD
  have : HT.sIx l.length l.length (some (-1)) = l.length - 1 := by
    show (if (-1 : Int) < 0 then ((-1 : Int) + (l.length : Int)).toNat else min (-1 : Int).toNat l.length) = _
    rw [if_pos (by omega)]
    omega
  rw [HT.sIx_none, this, List.drop_zero, Nat.sub_zero]
theorem gp40 : gPow (.int 10) (.int 40) = some (.int (10 ^ 40)) := by rfl
theorem gp30 : gPow (.int 10) (.int 30) = some (.int (10 ^ 30)) := by rfl
/-! ### trees -/
inductive Tr
  | leaf (i : Int)
  | node (a b : Tr)
  deriving DecidableEq
def Tr.d : Tr → D
  | .leaf i => .int i
  | .node a b => .tuple [a.d, b.d]
def Tr.dep : Tr → Nat
  | .leaf _ => 0
  | .node a b => max a.dep b.dep + 1
def Tr.need : Tr → Nat
  | .leaf _ => 1
  | .node a b => if a.need = b.need then a.need + 1 else max a.need b.need
def Tr.nums : Tr → D
  | .leaf _ => .int 1
  | .node a b => .tuple [.int ((Tr.node a b).need : Int), a.nums, b.nums]
def isTr : Nat → D → Bool
  | _, .int _ => true
  | n + 1, .tuple [a, b] => isTr n a && isTr n b
  | _, _ => false
theorem isTr_d : ∀ (t : Tr) (n : Nat), isTr n t.d = decide (t.dep ≤ n)
  | .leaf i, n => by cases n <;> simp [Tr.d, isTr, Tr.dep]
  | .node a b, 0 => by simp [Tr.d, isTr, Tr.dep]
  | .node a b, n + 1 => by
    rw [Tr.d, isTr, isTr_d a n, isTr_d b n, Tr.dep, ← Bool.decide_and]
    simp only [decide_eq_decide]
    omega
theorem isTr_of : ∀ {n : Nat} {x : D}, isTr n x = true → ∃ t : Tr, x = t.d ∧ t.dep ≤ n := by
  intro n
  induction n with
  | zero =>
    intro x h
    cases x with
    | int i => exact ⟨.leaf i, rfl, Nat.le_refl _⟩
    | _ => simp [isTr] at h
  | succ n ih =>
    intro x h
    cases x with
    | int i => exact ⟨.leaf i, rfl, Nat.zero_le _⟩
    | tuple l =>
      match l, h with
      | [a, b], h =>
        rw [isTr, Bool.and_eq_true] at h
        obtain ⟨s, rfl, hs⟩ := ih h.1
        obtain ⟨t, rfl, ht⟩ := ih h.2
        exact ⟨.node s t, rfl, by rw [Tr.dep]; omega⟩
      | [], h => simp [isTr] at h
      | [_], h => simp [isTr] at h
      | _ :: _ :: _ :: _, h => simp [isTr] at h
    | _ => simp [isTr] at h
theorem isT_t {l : List D} : isT "tuple" (.tuple l) = some (.bool true) := rfl
theorem isT_n {x : D} (h : ndt x = true) (h2 : ∀ l, x ≠ .tuple l) : isT "tuple" x = some (.bool false) := by
  cases x <;> first | rfl | (rename_i l; exact absurd rfl (h2 l)) | (simp [ndt] at h)
theorem two_of' {l : List D} (h : l.length = 2) : ∃ a b, l = [a, b] := by
  match l, h with
  | [a, b], _ => exact ⟨a, b, rfl⟩
theorem v_is_tree : ∀ (k n : Nat) (x : D), n < k → lay 63 x = true → recM r_is_tree k [.d x, .d (.int n)] = .ret (.d (.bool (isTr n x))) [] := by
  intro k
  induction k with
  | zero => intro n x h; omega
  | succ k ih =>
    intro n x hn hx
    rw [u_is_tree]
    unfold b_is_tree
    have e1 := v_is_integer (lay_ndt hx)
    by_cases hi : isI x = true
    · obtain ⟨i, rfl⟩ : ∃ i, x = .int i := ⟨_, isI_of hi⟩
      have : isTr n (.int i) = true := by cases n <;> rfl
      push_cast [e1, hi, this]
    · have hi : isI x = false := by simpa using hi
      by_cases ht : ∃ l, x = .tuple l
      · obtain ⟨l, rfl⟩ := ht
        by_cases h2 : l.length = 2
        · obtain ⟨a, b, rfl⟩ := two_of' h2
          have n2 : decide (((0 + 1 + 1 : Nat) : Int) = 2) = true := by decide
          have la := lay_tm hx a (by simp)
          have lb := lay_tm hx b (by simp)
          cases n with
          | zero =>
            have : isTr 0 (.tuple [a, b]) = false := rfl
            have z : decide (((0 : Nat) : Int) = 0) = true := rfl
            push_cast [e1, hi, isT_t, n2, z, this]
          | succ n =>
            have z : decide (((n + 1 : Nat) : Int) = 0) = false := decide_eq_false (by omega)
            have en : ((n + 1 : Nat) : Int) - 1 = (n : Int) := by omega
            have ea := ih n a (by omega) la
            have eb := ih n b (by omega) lb
            have : isTr (n + 1) (.tuple [a, b]) = (isTr n a && isTr n b) := rfl
            rw [this]
            cases ha : isTr n a <;> push_cast [e1, hi, isT_t, n2, z, en, ea, eb, ha, Bool.false_and, Bool.true_and]
        · have n2 : decide ((l.length : Int) = 2) = false := decide_eq_false (by omega)
          have : isTr n (.tuple l) = false := by
            match l, h2, n with
            | [], _, 0 => rfl
            | [], _, _ + 1 => rfl
            | [_], _, 0 => rfl
            | [_], _, _ + 1 => rfl
            | [_, _], h2, _ => exact absurd rfl h2
            | _ :: _ :: _ :: _, _, 0 => rfl
            | _ :: _ :: _ :: _, _, _ + 1 => rfl
          push_cast [e1, hi, isT_t, n2, this]
      · have ht' : ∀ l, x ≠ .tuple l := fun l e => ht ⟨l, e⟩
        have : isTr n x = false := by
          cases x with
          | int i => simp [isI] at hi
          | tuple l => exact absurd rfl (ht' l)
          | _ => cases n <;> rfl
        push_cast [e1, hi, isT_n (lay_ndt hx) ht', this]
theorem ok_tree : okD (.str "tree") = true := by decide
theorem v_check_tree {x : D} (hx : lay 63 x = true) : m_check_tree [.d x] = if isTr 12 x = true then .ret (.d .none) [] else .ex "ArgumentError" (.str "tree") [] := by
  have e : m_is_tree [.d x, .d (.int 12)] = .ret (.d (.bool (isTr 12 x))) [] := v_is_tree 20 12 x (by omega) hx
  rw [u_check_tree]
  unfold b_check_tree
  cases h : isTr 12 x <;> push_cast [e, h, ok_tree]
theorem tr_ndt (t : Tr) : ndt t.d = true := by cases t <;> rfl
theorem v_needed_of : ∀ (k : Nat) (t : Tr), t.dep < k → recM r_needed_of k [.d t.d] = .ret (.d (.int t.need)) [] := by
  intro k
  induction k with
  | zero => intro t h; omega
  | succ k ih =>
    intro t h
    rw [u_needed_of]
    unfold b_needed_of
    cases t with
    | leaf i =>
      have : isT "tuple" (Tr.leaf i).d = some (.bool false) := rfl
      push_cast [this, Tr.need]
      rfl
    | node a b =>
      rw [Tr.dep] at h
      have ea := ih a (by omega)
      have eb := ih b (by omega)
      have mx : gMax2 [.int a.need, .int b.need] = some (.int (max a.need b.need : Nat)) := by
        show some (PyData.int (if (b.need : Int) > (a.need : Int) then (b.need : Int) else (a.need : Int))) = _
        congr 2
        split <;> omega
      rw [Tr.d, Tr.need]
      by_cases hq : a.need = b.need
      · have hd : decide ((a.need : Int) = (b.need : Int)) = true := decide_eq_true (by omega)
        rw [if_pos hq]
        push_cast [isT_t, ea, eb, hd, mx, List.map_cons, List.map_nil]
        rfl
      · have hd : decide ((a.need : Int) = (b.need : Int)) = false := decide_eq_false (by omega)
        rw [if_neg hq]
        push_cast [isT_t, ea, eb, hd, mx, List.map_cons, List.map_nil]
theorem v__law_whole {x : D} (hx : ndt x = true) : m__law_whole [.d x] = .ret (.d (.bool (isI x))) [] := by
  rw [u__law_whole]
  unfold b__law_whole
  cases x <;> first | (simp [ndt] at hx; done) | (push_cast []; done) | (push_cast []; rfl)
theorem sort2 {a b : Nat} : nSort [.list [.int a, .int b]] = some [.int (min a b : Nat), .int (max a b : Nat)] := by
  have : intsOf [PyData.int a, PyData.int b] = some [(a : Int), (b : Int)] := rfl
  simp only [nSort, this, Option.map_some]
  by_cases h : a ≤ b
  · have : [(a : Int), (b : Int)].mergeSort (fun a b => decide (a ≤ b)) = [(a : Int), (b : Int)] := List.mergeSort_of_pairwise (by simp; omega)
    rw [this, Nat.min_eq_left h, Nat.max_eq_right h]
    rfl
  · have : [(a : Int), (b : Int)].mergeSort (fun a b => decide (a ≤ b)) = [(b : Int), (a : Int)] := by
      unfold List.mergeSort
      simp [List.MergeSort.Internal.splitInTwo, List.merge]
      omega
    rw [this, Nat.min_eq_right (by omega), Nat.max_eq_left (by omega)]
    rfl
theorem need_pos : ∀ t : Tr, 1 ≤ t.need ∧ t.need ≤ t.dep + 1
  | .leaf _ => ⟨Nat.le_refl _, Nat.le_refl _⟩
  | .node a b => by
    have ha := need_pos a
    have hb := need_pos b
    rw [Tr.need, Tr.dep]
    split <;> omega
theorem v__law_need : ∀ (k : Nat) (t : Tr), t.dep < k → recM r__law_need k [.d t.d] = .ret (.d (.int t.need)) [] := by
  intro k
  induction k with
  | zero => intro t h; omega
  | succ k ih =>
    intro t h
    rw [u__law_need]
    unfold b__law_need
    cases t with
    | leaf i =>
      have : isT "tuple" (Tr.leaf i).d = some (.bool false) := rfl
      push_cast [this, Tr.need]
      rfl
    | node a b =>
      rw [Tr.dep] at h
      have ea := ih a (by omega)
      have eb := ih b (by omega)
      have so := sort2 (a := a.need) (b := b.need)
      rw [Tr.d, Tr.need]
      by_cases hq : a.need = b.need
      · have hd : ¬ ((min a.need b.need : Nat) : Int) < ((max a.need b.need : Nat) : Int) := by omega
        have hm : ((max a.need b.need : Nat) : Int) + 1 = ((a.need + 1 : Nat) : Int) := by omega
        have hm' : ((min a.need b.need : Nat) : Int) + 1 = ((a.need + 1 : Nat) : Int) := by omega
        rw [if_pos hq]
        push_cast [isT_t, ea, eb, so, hd, decide_false, hm, hm']
      · have hd : ((min a.need b.need : Nat) : Int) < ((max a.need b.need : Nat) : Int) := by omega
        rw [if_neg hq]
        push_cast [isT_t, ea, eb, so, hd, decide_true]
theorem v_numbers_of : ∀ (k : Nat) (t : Tr), t.dep < k → t.dep < 20 → recM r_numbers_of k [.d t.d] = .ret (.d t.nums) [] := by
  intro k
  induction k with
  | zero => intro t h; omega
  | succ k ih =>
    intro t h h2
    rw [u_numbers_of]
    unfold b_numbers_of
    have en : m_needed_of [.d t.d] = .ret (.d (.int t.need)) [] := v_needed_of 20 t h2
    cases t with
    | leaf i =>
      have : isT "tuple" (Tr.leaf i).d = some (.bool false) := rfl
      push_cast [this, Tr.nums]
    | node a b =>
      rw [Tr.dep] at h h2
      have ea := ih a (by omega) (by omega)
      have eb := ih b (by omega) (by omega)
      rw [Tr.d] at en ⊢
      rw [Tr.nums]
      push_cast [isT_t, ea, eb, en]
theorem v__law_numbers : ∀ (k : Nat) (t : Tr), t.dep < k → t.dep < 20 → recM r__law_numbers k [.d t.d] = .ret (.d t.nums) [] := by
  intro k
  induction k with
  | zero => intro t h; omega
  | succ k ih =>
    intro t h h2
    rw [u__law_numbers]
    unfold b__law_numbers
    have en : m__law_need [.d t.d] = .ret (.d (.int t.need)) [] := v__law_need 20 t h2
    cases t with
    | leaf i =>
      have : isT "tuple" (Tr.leaf i).d = some (.bool false) := rfl
      push_cast [this, Tr.nums]
    | node a b =>
      rw [Tr.dep] at h h2
      have ea := ih a (by omega) (by omega)
      have eb := ih b (by omega) (by omega)
      rw [Tr.d] at en ⊢
      rw [Tr.nums]
      push_cast [isT_t, ea, eb, en]
theorem v__law_depth : ∀ (k : Nat) (t : Tr), t.dep < k → recM r__law_depth k [.d t.d] = .ret (.d (.int t.dep)) [] := by
  intro k
  induction k with
  | zero => intro t h; omega
  | succ k ih =>
    intro t h
    rw [u__law_depth]
    unfold b__law_depth
    cases t with
    | leaf i =>
      have : isT "tuple" (Tr.leaf i).d = some (.bool false) := rfl
      push_cast [this, Tr.dep]
      rfl
    | node a b =>
      rw [Tr.dep] at h
      have ea := ih a (by omega)
      have eb := ih b (by omega)
      have mx : gMaxL [.list [.int a.dep, .int b.dep]] = some (.int (max a.dep b.dep : Nat)) := by
        show some (PyData.int (max (a.dep : Int) (b.dep : Int))) = _
        congr 2
        omega
      have e1 : (1 : Int) + ((max a.dep b.dep : Nat) : Int) = ((max a.dep b.dep + 1 : Nat) : Int) := by omega
      rw [Tr.d, Tr.dep]
      push_cast [isT_t, ea, eb, mx, e1]
def isNum : Tr → D → Bool
  | .leaf _, .int i => decide (i = 1)
  | .node a b, .tuple [.int n, x, y] => decide (n = (Tr.node a b).need) && (isNum a x && isNum b y)
  | _, _ => false
theorem isNum_iff : ∀ (t : Tr) (x : D), isNum t x = true ↔ x = t.nums
  | .leaf _, x => by
    rw [Tr.nums]
    cases x <;> simp [isNum]
  | .node a b, x => by
    rw [Tr.nums]
    constructor
    · intro h
      unfold isNum at h
      split at h
      · rename_i e; cases e
      · rename_i a' b' n x y e
        cases e
        simp only [Bool.and_eq_true, decide_eq_true_eq] at h
        rw [h.1, (isNum_iff a x).mp h.2.1, (isNum_iff b y).mp h.2.2]
      · cases h
    · rintro rfl
      rw [isNum, (isNum_iff a _).mpr rfl, (isNum_iff b _).mpr rfl]
      simp
theorem nums_lay : ∀ (t : Tr), lay t.dep t.nums = true
  | .leaf _ => rfl
  | .node a b => by
    rw [Tr.nums, Tr.dep]
    simp only [lay]
    refine lays_of fun x hx => ?_
    simp only [List.mem_cons, List.not_mem_nil, or_false] at hx
    rcases hx with rfl | rfl | rfl
    · rfl
    · exact lay_up (Nat.le_max_left ..) (nums_lay a)
    · exact lay_up (Nat.le_max_right ..) (nums_lay b)
theorem nums_nb : ∀ (t : Tr), nb t.nums = true
  | .leaf _ => rfl
  | .node a b => by rw [Tr.nums]; simp [nb, nbs, nums_nb a, nums_nb b]
theorem nums_ndt (t : Tr) : ndt t.nums = true := lay_ndt (nums_lay t)
theorem int_eqv {x : D} {i : Int} (hx : isI x = true) : PyData.eqv x (.int i) = true ↔ x = .int i := by
  cases x <;> simp [isI] at hx
  simp [PyData.eqv]
theorem three_of {l : List D} (h : l.length = 3) : ∃ a b c, l = [a, b, c] := by
  match l, h with
  | [a, b, c], _ => exact ⟨a, b, c, rfl⟩
theorem cut_1 {a : D} {l : List D} : cutD (a :: l) (some 1) none = l := by
  have := cut_from (l := a :: l) (i := 1) (by simp)
  exact this
theorem isNum_node {a b : Tr} {x : D} : isNum (.node a b) x = true ↔ ∃ y z, x = .tuple [.int (Tr.node a b).need, y, z] ∧ isNum a y = true ∧ isNum b z = true := by
  constructor
  · intro h
    rw [isNum_iff, Tr.nums] at h
    exact ⟨_, _, h, (isNum_iff a _).mpr rfl, (isNum_iff b _).mpr rfl⟩
  · rintro ⟨y, z, rfl, h1, h2⟩
    rw [isNum, h1, h2]
    simp
theorem need_nums : ∀ t : Tr, (isI t.nums = true ∧ t.nums = .int t.need) ∨ (isI t.nums = false ∧ ∃ y z, t.nums = .tuple [.int t.need, y, z])
  | .leaf _ => .inl ⟨rfl, rfl⟩
  | .node a b => .inr ⟨rfl, _, _, rfl⟩
def nd (x : D) : Int := match x with
  | .tuple (.int i :: _) => i
  | _ => iv x
theorem nd_nums : ∀ t : Tr, nd t.nums = t.need
  | .leaf _ => rfl
  | .node _ _ => rfl
theorem part_of (t : Tr) {δ : Dl.Env} {i : Nat} (h : δ.getD i none = some (.d t.nums)) : ifE (truE (ofN (callN [] m_is_integer [var i]))) (var i) (op2 gIx (var i) (cst (.int 0))) δ = .ok (.d (.int t.need)) δ := by
  have e := v_is_integer (nums_ndt t)
  rcases need_nums t with ⟨h1, h2⟩ | ⟨h1, y, z, h2⟩
  · rw [h1] at e
    rw [h2] at e h
    push_cast [h, e]
  · rw [h1] at e
    rw [h2] at e h
    push_cast [h, e]
theorem v_are_numbers : ∀ (k : Nat) (t : Tr) (x : D), t.dep < k → lay 63 x = true → recM r_are_numbers k [.d t.d, .d x] = .ret (.d (.bool (isNum t x))) [] := by
  intro k
  induction k with
  | zero => intro t x h; omega
  | succ k ih =>
    intro t x h hx
    rw [u_are_numbers]
    unfold b_are_numbers
    have e1 := v_is_integer (lay_ndt hx)
    cases t with
    | leaf i =>
      have : isT "tuple" (Tr.leaf i).d = some (.bool false) := rfl
      cases hi : isI x with
      | true =>
        have e2 : gEq x (.int 1) = some (.bool (isNum (.leaf i) x)) := by
          rw [gEq_lay (lay_up (by omega) hx) rfl]
          have := isNum_iff (.leaf i) x
          rw [Tr.nums] at this
          have e3 : PyData.eqv x (.int 1) = isNum (.leaf i) x := by rw [Bool.eq_iff_iff, int_eqv hi, this]
          rw [e3]
        push_cast [this, e1, hi, e2]
      | false =>
        have : isNum (.leaf i) x = false := by
          rw [Bool.eq_false_iff]; intro z
          rw [isNum_iff] at z; subst z; cases hi
        push_cast [show isT "tuple" (Tr.leaf i).d = some (.bool false) from rfl, e1, hi, this]
    | node a b =>
      rw [Tr.dep] at h
      rw [Tr.d]
      by_cases ht : ∃ l, x = .tuple l
      · obtain ⟨l, rfl⟩ := ht
        by_cases h3 : l.length = 3
        · obtain ⟨n, y, z, rfl⟩ := three_of h3
          have ln := lay_tm hx n (by simp)
          have ly := lay_tm hx y (by simp)
          have lz := lay_tm hx z (by simp)
          have n3 : decide (((0 + 1 + 1 + 1 : Nat) : Int) = 3) = true := by decide
          have en := v_is_integer (lay_ndt ln)
          have ea := ih a y (by omega) ly
          have eb := ih b z (by omega) lz
          cases hn : isI n with
          | false =>
            have : isNum (.node a b) (.tuple [n, y, z]) = false := by
              rw [Bool.eq_false_iff]; intro q
              obtain ⟨_, _, q, _⟩ := isNum_node.mp q
              cases q; cases hn
            push_cast [isT_t, n3, Bool.not_true, en, hn, this]
          | true =>
            cases ha : isNum a y with
            | false =>
              have : isNum (.node a b) (.tuple [n, y, z]) = false := by
                rw [Bool.eq_false_iff]; intro q
                obtain ⟨_, _, q, q1, q2⟩ := isNum_node.mp q
                cases q; rw [ha] at q1; cases q1
              push_cast [isT_t, n3, Bool.not_true, en, hn, this, ea, ha]
            | true =>
              cases hb : isNum b z with
              | false =>
                have : isNum (.node a b) (.tuple [n, y, z]) = false := by
                  rw [Bool.eq_false_iff]; intro q
                  obtain ⟨_, _, q, q1, q2⟩ := isNum_node.mp q
                  cases q; rw [hb] at q2; cases q2
                push_cast [isT_t, n3, Bool.not_true, en, hn, this, ea, ha, eb, hb]
              | true =>
                obtain rfl := (isNum_iff a y).mp ha
                obtain rfl := (isNum_iff b z).mp hb
                obtain ⟨n, rfl⟩ : ∃ i, n = .int i := ⟨_, isI_of hn⟩
                have lc := lc_map (n := 5) (i := 4) (fi := ixE (slE (var 1) (some (cst (.int 1))) none)) (e := ifE (truE (ofN (callN [] m_is_integer [var 4]))) (var 4) (op2 gIx (var 4) (cst (.int 0)))) (δ := [some (.d (.tuple [a.d, b.d])), some (.d (.tuple [.int n, a.nums, b.nums])), none, none, none]) (δ1 := [some (.d (.tuple [a.d, b.d])), some (.d (.tuple [.int n, a.nums, b.nums])), none, none, none]) (l := [a.nums, b.nums])
                  (fun x => .int (nd x)) rfl (by push_cast [gsl_t, cut_1]) (by simp) (fun x hx => by
                    simp only [List.mem_cons, List.not_mem_nil, or_false] at hx
                    rcases hx with rfl | rfl
                    · rw [nd_nums]; exact part_of a rfl
                    · rw [nd_nums]; exact part_of b rfl)
                rw [List.map_cons, List.map_cons, List.map_nil, nd_nums, nd_nums] at lc
                have mx : gMax2 [.int a.need, .int b.need] = some (.int (max a.need b.need : Nat)) := by
                  show some (PyData.int (if (b.need : Int) > (a.need : Int) then (b.need : Int) else (a.need : Int))) = _
                  congr 2
                  split <;> omega
                have e2 : isNum (.node a b) (.tuple [.int n, a.nums, b.nums]) = decide (n = ((Tr.node a b).need : Int)) := by
                  rw [isNum, ha, hb]; simp
                rw [e2, Tr.need]
                by_cases hq : a.need = b.need
                · have hd : decide ((a.need : Int) = (b.need : Int)) = true := decide_eq_true (by omega)
                  rw [if_pos hq]
                  push_cast [isT_t, n3, Bool.not_true, en, hn, ea, ha, eb, hb, lc, keepO, hd]
                  rfl
                · have hd : decide ((a.need : Int) = (b.need : Int)) = false := decide_eq_false (by omega)
                  rw [if_neg hq]
                  push_cast [isT_t, n3, Bool.not_true, en, hn, ea, ha, eb, hb, lc, keepO, hd, mx]
        · have n3 : decide ((l.length : Int) = 3) = false := decide_eq_false (by omega)
          have : isNum (.node a b) (.tuple l) = false := by
            rw [Bool.eq_false_iff]; intro q
            obtain ⟨_, _, q, _⟩ := isNum_node.mp q
            cases q; exact h3 rfl
          push_cast [isT_t, n3, Bool.not_false, this]
      · have : isNum (.node a b) x = false := by
          rw [Bool.eq_false_iff]; intro q
          obtain ⟨_, _, q, _⟩ := isNum_node.mp q
          exact ht ⟨_, q⟩
        push_cast [isT_t, isT_n (lay_ndt hx) (fun l e => ht ⟨l, e⟩), this]
theorem v__law_are_numbers {t : Tr} {x : D} {B : Nat} {M : Int} (ht : t.dep < 20) (hx : GV 63 B M x) (hB : B ≤ 16777216) (hM : M < 10 ^ 45) (hs : rsz t.nums ≤ 16777216) (hr : rok t.nums = true) : m__law_are_numbers [.d t.d, .d x] = .ret (.d (.bool (isNum t x))) [] := by
  rw [u__law_are_numbers]
  unfold b__law_are_numbers
  have e1 : m__law_numbers [.d t.d] = .ret (.d t.nums) [] := v__law_numbers 20 t ht ht
  have ly := lay_up (m := 64) (by omega) (nums_lay t)
  have e2 := gEq_lay (lay_up (m := 64) (by omega) hx.1) ly
  have e3 := gv_repr hx (by omega) hB hM
  have e4 := gRepr_lay ly hr hs
  have e5 := same_iff (x := x) ly (nums_nb t)
  have e6 : sameD x t.nums = isNum t x := by rw [Bool.eq_iff_iff, sameD_t, isNum_iff]
  rw [e6] at e5
  rw [← e5]
  cases hq : PyData.eqv x t.nums <;> push_cast [e1, e2, e3, e4, hq, Bool.false_and]
/-! ### runs -/
def rD : Option Tr → D
  | none => .none
  | some t => t.d
def jn (R : List (Option Tr)) (a b c : Int) : Option (List (Option Tr)) :=
  match R[b.toNat]?, R[c.toNat]? with
  | some (some s), some (some t) => if max s.dep t.dep + 1 ≤ 12 then some (R.set a.toNat (some (.node s t))) else none
  | _, _ => none
def inR (m : Nat) (x : D) : Bool := decide (0 ≤ iv x) && decide (iv x < m)
def stp (m : Nat) (R : List (Option Tr)) : D → Option (List (Option Tr))
  | .tuple [k, a, b] => if isI a && isI b && inR m a && PyData.eqv k (.str "load") then some (R.set (iv a).toNat (some (.leaf (iv b)))) else none
  | .tuple [k, a, b, c] => if isI a && isI b && isI c && inR m a && inR m b && inR m c && PyData.eqv k (.str "join") then jn R (iv a) (iv b) (iv c) else none
  | _ => none
def runR (m : Nat) : List (Option Tr) → List D → Option (List (Option Tr))
  | R, [] => some R
  | R, x :: l => (stp m R x).bind fun R' => runR m R' l
def oks (R : List (Option Tr)) : Prop := ∀ t, some t ∈ R → t.dep ≤ 12
def rE (m : Nat) (l : D) (R : List (Option Tr)) (x3 x4 x5 : Option T) : Dl.Env := [some (.d (.int m)), some (.d l), some (.own (R.map rD)), x3, x4, x5]
theorem two_of {l : List D} (h : l.length = 2) : ∃ a b, l = [a, b] := two_of' h
theorem four_of {l : List D} (h : l.length = 4) : ∃ a b c d, l = [a, b, c, d] := by
  match l, h with
  | [a, b, c, d], _ => exact ⟨a, b, c, d, rfl⟩
theorem all_I {l : List D} : (l.map fun x => .bool (isI x)) = l.map fun x => PyData.bool (isI x) := rfl
theorem rlc {δ : Dl.Env} (h6 : δ.length = 6) {x : D} {l : List D} (h3 : δ.getD 3 none = some (.d (.tuple (x :: l)))) (hl : l.length ≤ 16777216) (hd : ∀ x ∈ l, ndt x = true) :
    lcN 6 [5] (.nm 5) (ixE (slE (var 3) (some (cst (.int 1))) none)) none (ofN (callN [] m_is_integer [var 5])) δ = .inl (some (.own (l.map fun x => .bool (isI x)), δ.set 5 (keepO (δ.getD 5 none)))) :=
  lc_isI (by omega) h6 (by push_cast [h3, gsl_t, cut_1]) hl hd
theorem gni_34 {n : Nat} : gNotIn (.int n) (.tuple [.int 3, .int 4]) = some (.bool (decide (n ≠ 3 ∧ n ≠ 4))) := by
  show some (PyData.bool (!(([PyData.int 3, PyData.int 4]).any fun z => PyData.eqv z (.int n)))) = _
  congr 2
  rw [Bool.eq_iff_iff]
  simp [PyData.eqv]
  omega
theorem s_in {R : List (Option Tr)} {t : Tr} {k : Nat} (h : oks R) (ht : t.dep ≤ 12) : oks (R.set k (some t)) := fun s hs => by
  rcases List.mem_or_eq_of_mem_set hs with h1 | h1
  · exact h s h1
  · cases h1; exact ht
theorem rg_at {R : List (Option Tr)} {n : Nat} {o : Option Tr} (h : R[n]? = some o) : atI (R.map rD) (n : Int) = some (rD o) := by rw [at_n, List.getElem?_map, h]; rfl
theorem gin_pair {x y : D} (hx : lay 63 x = true) (hy : lay 63 y = true) : gIn .none (.tuple [x, y]) = some (.bool (PyData.eqv x .none || PyData.eqv y .none)) := by
  have : shp (.tuple [x, y]) = true := shp_lay (by simp only [lay, lays, hx, hy]; rfl)
  show (if _ then _ else _ : Option Bool).map _ = _
  rw [if_pos ⟨rfl, this⟩]
  simp
theorem tr_none (t : Tr) : PyData.eqv t.d .none = false := by cases t <;> simp [Tr.d, PyData.eqv]
theorem tr_lay : ∀ (t : Tr), lay t.dep t.d = true
  | .leaf _ => rfl
  | .node a b => by
    rw [Tr.d, Tr.dep]
    simp only [lay]
    refine lays_of fun x hx => ?_
    simp only [List.mem_cons, List.not_mem_nil, or_false] at hx
    rcases hx with rfl | rfl
    · exact lay_up (Nat.le_max_left ..) (tr_lay a)
    · exact lay_up (Nat.le_max_right ..) (tr_lay b)
theorem rD_lay {R : List (Option Tr)} (hok : oks R) {n : Nat} {o : Option Tr} (h : R[n]? = some o) : lay 12 (rD o) = true := by
  cases o with
  | none => rfl
  | some t => exact lay_up (hok t (List.mem_of_getElem? h)) (tr_lay t)
theorem st_run {m : Nat} {l : D} {x : D} (hx : lay 62 x = true) (hs : rsz x ≤ 16777216) {R : List (Option Tr)} (hR : R.length = m) (hm : m ≤ 60) (hok : oks R) {x4 : Option T} :
    match stp m R x with
    | some R' => (∃ x4', f1_run_of (rE m l R (some (.d x)) x4 none) = .nx (rE m l R' (some (.d x)) x4' none)) ∧ R'.length = m ∧ oks R'
    | none => ∃ δ, f1_run_of (rE m l R (some (.d x)) x4 none) = .rt (.d .none) δ := by
  unfold f1_run_of rE
  by_cases ht : ∃ l, x = .tuple l
  · obtain ⟨q, rfl⟩ := ht
    have hql : q.length ≤ 16777216 := by
      have : rsz (.tuple q) = rszs q + 3 := by simp only [rsz]
      have := rszs_len (l := q)
      omega
    have hnd : ∀ x ∈ q, ndt x = true := fun x hx' => lay_ndt (lay_tm hx x hx')
    by_cases h3 : q.length = 3
    · obtain ⟨k, a, b, rfl⟩ := three_of h3
      have lc := fun (y : Option T) => rlc (δ := [some (.d (.int m)), some (.d l), some (.own (R.map rD)), some (.d (.tuple [k, a, b])), y, none]) rfl rfl (by simp at hql ⊢) (fun x hx' => hnd x (List.mem_cons_of_mem _ hx'))
      have ga := gall_map (p := isI) (l := [a, b])
      have gn := gni_34 (n := 0 + 1 + 1 + 1)
      have n3 : decide (((0 + 1 + 1 + 1 : Nat) : Int) = 3) = true := by decide
      have n4 : decide (((0 + 1 + 1 + 1 : Nat) : Int) = 4) = false := by decide
      have d34 : decide (0 + 1 + 1 + 1 ≠ 3 ∧ 0 + 1 + 1 + 1 ≠ 4) = false := by decide
      have es : stp m R (.tuple [k, a, b]) = if (isI a && isI b && inR m a && PyData.eqv k (.str "load")) = true then some (R.set (iv a).toNat (some (.leaf (iv b)))) else none := rfl
      have all2 : [a, b].all isI = (isI a && isI b) := by simp
      rw [all2] at ga
      rw [es]
      cases hI : isI a && isI b with
      | false =>
        rw [hI] at ga
        push_cast [isT_t, Bool.not_true, gn, d34, lc, keepO, ga, Bool.not_false, Bool.false_and]
        exact ⟨_, rfl⟩
      | true =>
        rw [hI] at ga
        rw [Bool.and_eq_true] at hI
        obtain ⟨i, rfl⟩ : ∃ i, a = .int i := ⟨_, isI_of hI.1⟩
        obtain ⟨j, rfl⟩ : ∃ j, b = .int j := ⟨_, isI_of hI.2⟩
        have ei : inR m (.int i) = (decide (0 ≤ i) && decide (i < m)) := rfl
        rw [Bool.true_and, ei]
        have el := gEq_lay (x := k) (y := .str "load") (lay_up (by omega) (lay_tm hx k (by simp))) (by decide +kernel)
        have ej := gEq_lay (x := k) (y := .str "join") (lay_up (by omega) (lay_tm hx k (by simp))) (by decide +kernel)
        by_cases h0 : 0 ≤ i
        · by_cases h1 : i < m
          · obtain ⟨i, rfl⟩ := Int.eq_ofNat_of_zero_le h0
            have hiR : i < (R.map rD).length := by rw [List.length_map]; omega
            have ix := ix_n hiR
            cases hk : PyData.eqv k (.str "load") with
            | true =>
              simp only [h0, h1, decide_true, Bool.and_self, if_true]
              refine ⟨⟨x4, ?_⟩, by rw [List.length_set, hR], s_in hok (Nat.zero_le _)⟩
              push_cast [isT_t, Bool.not_true, gn, d34, lc, keepO, ga, h0, h1, decide_true, el, hk, n3, ix]
              rw [List.map_set]
              rfl
            | false =>
              cases hj : PyData.eqv k (.str "join") <;> push_cast [isT_t, Bool.not_true, gn, d34, lc, keepO, ga, h0, h1, decide_true, el, hk, ej, hj, n3, n4, Bool.and_false] <;> exact ⟨_, rfl⟩
          · push_cast [isT_t, Bool.not_true, gn, d34, lc, keepO, ga, h0, h1, decide_true, decide_false, Bool.not_false, Bool.false_and]
            exact ⟨_, rfl⟩
        · push_cast [isT_t, Bool.not_true, gn, d34, lc, keepO, ga, h0, decide_false, Bool.not_false, Bool.false_and]
          exact ⟨_, rfl⟩
    · by_cases h4 : q.length = 4
      · obtain ⟨k, a, b, c, rfl⟩ := four_of h4
        have lc := fun (y : Option T) => rlc (δ := [some (.d (.int m)), some (.d l), some (.own (R.map rD)), some (.d (.tuple [k, a, b, c])), y, none]) rfl rfl (by simp at hql ⊢) (fun x hx' => hnd x (List.mem_cons_of_mem _ hx'))
        have ga := gall_map (p := isI) (l := [a, b, c])
        have gn := gni_34 (n := 0 + 1 + 1 + 1 + 1)
        have n3 : decide (((0 + 1 + 1 + 1 + 1 : Nat) : Int) = 3) = false := by decide
        have n4 : decide (((0 + 1 + 1 + 1 + 1 : Nat) : Int) = 4) = true := by decide
        have d34 : decide (0 + 1 + 1 + 1 + 1 ≠ 3 ∧ 0 + 1 + 1 + 1 + 1 ≠ 4) = false := by decide
        have es : stp m R (.tuple [k, a, b, c]) = if (isI a && isI b && isI c && inR m a && inR m b && inR m c && PyData.eqv k (.str "join")) = true then jn R (iv a) (iv b) (iv c) else none := rfl
        have all3 : [a, b, c].all isI = (isI a && isI b && isI c) := by simp [Bool.and_assoc]
        rw [all3] at ga
        rw [es]
        cases hI : isI a && isI b && isI c with
        | false =>
          rw [hI] at ga
          push_cast [isT_t, Bool.not_true, gn, d34, lc, keepO, ga, Bool.not_false, Bool.false_and]
          exact ⟨_, rfl⟩
        | true =>
          rw [hI] at ga
          rw [Bool.and_eq_true, Bool.and_eq_true] at hI
          obtain ⟨i, rfl⟩ : ∃ i, a = .int i := ⟨_, isI_of hI.1.1⟩
          obtain ⟨j, rfl⟩ : ∃ j, b = .int j := ⟨_, isI_of hI.1.2⟩
          obtain ⟨c, rfl⟩ : ∃ i, c = .int i := ⟨_, isI_of hI.2⟩
          have ei : ∀ i, inR m (.int i) = (decide (0 ≤ i) && decide (i < m)) := fun _ => rfl
          rw [Bool.true_and, ei, ei, ei]
          have el := gEq_lay (x := k) (y := .str "load") (lay_up (by omega) (lay_tm hx k (by simp))) (by decide +kernel)
          have ej := gEq_lay (x := k) (y := .str "join") (lay_up (by omega) (lay_tm hx k (by simp))) (by decide +kernel)
          by_cases h0 : 0 ≤ i
          · by_cases h1 : i < m
            · obtain ⟨i, rfl⟩ := Int.eq_ofNat_of_zero_le h0
              have hiR : i < (R.map rD).length := by rw [List.length_map]; omega
              have ix := ix_n hiR
              have nl : ∀ z : Bool, (z && false) = false := fun z => by cases z <;> rfl
              cases hj : PyData.eqv k (.str "join") with
              | false =>
                cases hk : PyData.eqv k (.str "load") <;> push_cast [isT_t, Bool.not_true, gn, d34, lc, keepO, ga, h0, h1, decide_true, el, hk, ej, hj, n3, n4, Bool.and_false] <;> exact ⟨_, rfl⟩
              | true =>
                by_cases q0 : 0 ≤ j
                · by_cases q1 : j < m
                  · by_cases p0 : 0 ≤ c
                    · by_cases p1 : c < m
                      · obtain ⟨j, rfl⟩ := Int.eq_ofNat_of_zero_le q0
                        obtain ⟨c, rfl⟩ := Int.eq_ofNat_of_zero_le p0
                        simp only [h0, h1, q0, q1, p0, p1, decide_true, Bool.and_self, if_true]
                        have hjR : j < R.length := by omega
                        have hcR : c < R.length := by omega
                        obtain ⟨o1, e1⟩ : ∃ o, R[j]? = some o := ⟨_, List.getElem?_eq_getElem hjR⟩
                        obtain ⟨o2, e2⟩ : ∃ o, R[c]? = some o := ⟨_, List.getElem?_eq_getElem hcR⟩
                        have a1 := rg_at e1
                        have a2 := rg_at e2
                        have l1 := rD_lay hok e1
                        have l2 := rD_lay hok e2
                        have gi := gin_pair (lay_up (m := 63) (by omega) l1) (lay_up (m := 63) (by omega) l2)
                        have jj : jn R (iv (.int (i : Int))) (iv (.int (j : Int))) (iv (.int (c : Int))) = (match some o1, some o2 with
                          | some (some s), some (some t) => if max s.dep t.dep + 1 ≤ 12 then some (R.set i (some (.node s t))) else none
                          | _, _ => none) := by
                          rw [← e1, ← e2]; rfl
                        rw [jj]
                        cases hk : PyData.eqv k (.str "load") <;> (
                          cases o1 with
                          | none =>
                            have : PyData.eqv (rD none) .none = true := rfl
                            rw [this, Bool.true_or] at gi
                            push_cast [isT_t, Bool.not_true, gn, d34, lc, keepO, ga, h0, h1, decide_true, el, hk, ej, hj, n3, n4, q0, q1, p0, p1, a1, a2, gi]
                            exact ⟨_, rfl⟩
                          | some s =>
                            have t1 : PyData.eqv (rD (some s)) .none = false := tr_none s
                            rw [t1, Bool.false_or] at gi
                            cases o2 with
                            | none =>
                              have : PyData.eqv (rD none) .none = true := rfl
                              rw [this] at gi
                              push_cast [isT_t, Bool.not_true, gn, d34, lc, keepO, ga, h0, h1, decide_true, el, hk, ej, hj, n3, n4, q0, q1, p0, p1, a1, a2, gi]
                              exact ⟨_, rfl⟩
                            | some t =>
                              have t2 : PyData.eqv (rD (some t)) .none = false := tr_none t
                              rw [t2] at gi
                              have it : m_is_tree [.d (.tuple [rD (some s), rD (some t)]), .d (.int 12)] = .ret (.d (.bool (decide (max s.dep t.dep + 1 ≤ 12)))) [] := by
                                have := v_is_tree 20 12 (Tr.node s t).d (by omega) (by
                                  have hs' : s.dep ≤ 12 := hok s (List.mem_of_getElem? e1)
                                  have ht' : t.dep ≤ 12 := hok t (List.mem_of_getElem? e2)
                                  exact lay_up (by rw [Tr.dep]; omega) (tr_lay (.node s t)))
                                rw [isTr_d] at this
                                exact this
                              by_cases hd : max s.dep t.dep + 1 ≤ 12
                              · rw [decide_eq_true hd] at it
                                simp only [hd, if_true]
                                refine ⟨⟨some (.d (Tr.node s t).d), ?_⟩, by rw [List.length_set, hR], s_in hok (by rw [Tr.dep]; exact hd)⟩
                                push_cast [isT_t, Bool.not_true, gn, d34, lc, keepO, ga, h0, h1, decide_true, el, hk, ej, hj, n3, n4, q0, q1, p0, p1, a1, a2, gi, it, ix]
                                rw [List.map_set]
                                rfl
                              · rw [decide_eq_false hd] at it
                                simp only [hd, if_false]
                                push_cast [isT_t, Bool.not_true, gn, d34, lc, keepO, ga, h0, h1, decide_true, el, hk, ej, hj, n3, n4, q0, q1, p0, p1, a1, a2, gi, it, Bool.not_false]
                                exact ⟨_, rfl⟩)
                      · cases hk : PyData.eqv k (.str "load") <;> push_cast [isT_t, Bool.not_true, gn, d34, lc, keepO, ga, h0, h1, decide_true, el, hk, ej, hj, n3, n4, q0, q1, p0, p1, decide_false, Bool.and_false, Bool.false_and] <;> exact ⟨_, rfl⟩
                    · cases hk : PyData.eqv k (.str "load") <;> push_cast [isT_t, Bool.not_true, gn, d34, lc, keepO, ga, h0, h1, decide_true, el, hk, ej, hj, n3, n4, q0, q1, p0, decide_false, Bool.and_false, Bool.false_and] <;> exact ⟨_, rfl⟩
                  · cases hk : PyData.eqv k (.str "load") <;> push_cast [isT_t, Bool.not_true, gn, d34, lc, keepO, ga, h0, h1, decide_true, el, hk, ej, hj, n3, n4, q0, q1, decide_false, Bool.and_false, Bool.false_and] <;> exact ⟨_, rfl⟩
                · cases hk : PyData.eqv k (.str "load") <;> push_cast [isT_t, Bool.not_true, gn, d34, lc, keepO, ga, h0, h1, decide_true, el, hk, ej, hj, n3, n4, q0, decide_false, Bool.and_false, Bool.false_and] <;> exact ⟨_, rfl⟩
            · push_cast [isT_t, Bool.not_true, gn, d34, lc, keepO, ga, h0, h1, decide_true, decide_false, Bool.not_false, Bool.false_and, Bool.and_false]
              exact ⟨_, rfl⟩
          · push_cast [isT_t, Bool.not_true, gn, d34, lc, keepO, ga, h0, decide_false, Bool.not_false, Bool.false_and]
            exact ⟨_, rfl⟩
      · have gn := gni_34 (n := q.length)
        have : decide (q.length ≠ 3 ∧ q.length ≠ 4) = true := decide_eq_true ⟨h3, h4⟩
        have e : stp m R (.tuple q) = none := by
          match q, h3, h4 with
          | [], _, _ => rfl
          | [_], _, _ => rfl
          | [_, _], _, _ => rfl
          | [_, _, _], h, _ => exact absurd rfl h
          | [_, _, _, _], _, h => exact absurd rfl h
          | _ :: _ :: _ :: _ :: _ :: _, _, _ => rfl
        rw [e]
        push_cast [isT_t, Bool.not_true, gn, this]
        exact ⟨_, rfl⟩
  · have e : stp m R x = none := by
      cases x <;> first | rfl | (rename_i q; exact absurd ⟨q, rfl⟩ ht)
    rw [e]
    push_cast [isT_n (lay_ndt hx) (fun l e => ht ⟨l, e⟩), Bool.not_false]
    exact ⟨_, rfl⟩
theorem flt_e {l : List D} {p : D → Bool} {f : D → D} : ((l.filter p).map f).isEmpty = l.all fun x => !p x := by
  induction l with
  | nil => rfl
  | cons x l ih =>
    rw [List.filter_cons, List.all_cons]
    cases hp : p x
    · simpa [hp] using ih
    · simp
theorem dlc1 {δ : Dl.Env} (h6 : δ.length = 7) {x : D} {l : List D} (h3 : δ.getD 3 none = some (.d (.tuple (x :: l)))) (hl : l.length ≤ 16777216) (hd : ∀ x ∈ l, ndt x = true) :
    ∃ r, lcN 7 [6] (.nm 6) (ixE (slE (var 3) (some (cst (.int 1))) none)) (some (notT (truE (ofN (callN [] m__law_whole [var 6]))))) (var 6) δ = .inl (some (.own r, δ.set 6 (keepO (δ.getD 6 none)))) ∧ r.isEmpty = l.all isI := by
  refine ⟨_, lc_nm (fun x => !isI x) (fun z => z) h6 (by push_cast [h3, gsl_t, cut_1]) hl fun x hx => ?_, ?_⟩
  · have g := gd_set (δ := δ) (i := 6) (t := some (.d x)) (by omega)
    refine ⟨?_, fun _ => by push_cast [g]⟩
    push_cast [g, v__law_whole (hd x hx)]
  · rw [flt_e]; simp
theorem dlc2 {m : Nat} {δ : Dl.Env} (h6 : δ.length = 7) (h0 : δ.getD 0 none = some (.d (.int m))) {x : D} {l : List D} (h3 : δ.getD 3 none = some (.d (.tuple (x :: l)))) (hl : l.length ≤ 16777216) (hd : ∀ x ∈ l, isI x = true) :
    ∃ r, lcN 7 [6] (.nm 6) (ixE (slE (var 3) (some (cst (.int 1))) none)) (some (notT (chainE (cst (.int 0)) [(gLe, var 6), (gLt, var 0)]))) (var 6) δ = .inl (some (.own r, δ.set 6 (keepO (δ.getD 6 none)))) ∧ r.isEmpty = l.all (inR m) := by
  refine ⟨_, lc_nm (fun x => !inR m x) (fun z => z) h6 (by push_cast [h3, gsl_t, cut_1]) hl fun x hx => ?_, ?_⟩
  · have g := gd_set (δ := δ) (i := 6) (t := some (.d x)) (by omega)
    have g0 : (δ.set 6 (some (.d x))).getD 0 none = some (.d (.int m)) := by rw [getD_set_ne (by omega)]; exact h0
    refine ⟨?_, fun _ => by push_cast [g]⟩
    obtain ⟨i, rfl⟩ : ∃ i, x = .int i := ⟨_, isI_of (hd x hx)⟩
    have ei : inR m (.int i) = (decide (0 ≤ i) && decide (i < m)) := rfl
    rw [ei]
    by_cases h : 0 ≤ i <;> push_cast [g, g0, h, decide_true, decide_false, Bool.false_and, Bool.not_false]
  · rw [flt_e]; simp
def dE (m : Nat) (l : D) (R : List (Option Tr)) (x3 x4 x5 x6 : Option T) : Dl.Env := [some (.d (.int m)), some (.d l), some (.own (R.map rD)), x3, x4, x5, x6]
theorem gisn {x : D} : gIsN x .none = some (.bool (isNo x)) := by
  cases x <;> rfl
theorem st_done {m : Nat} {l : D} {x : D} (hx : lay 62 x = true) (hs : rsz x ≤ 16777216) {R : List (Option Tr)} (hR : R.length = m) (hm : m ≤ 60) (hok : oks R) {x4 x5 : Option T} :
    match stp m R x with
    | some R' => (∃ x4' x5', f1__law_done (dE m l R (some (.d x)) x4 x5 none) = .nx (dE m l R' (some (.d x)) x4' x5' none))
    | none => ∃ δ, f1__law_done (dE m l R (some (.d x)) x4 x5 none) = .rt (.d .none) δ := by
  unfold f1__law_done dE
  by_cases ht : ∃ l, x = .tuple l
  · obtain ⟨q, rfl⟩ := ht
    have hql : q.length ≤ 16777216 := by
      have : rsz (.tuple q) = rszs q + 3 := by simp only [rsz]
      have := rszs_len (l := q)
      omega
    have hnd : ∀ x ∈ q, ndt x = true := fun x hx' => lay_ndt (lay_tm hx x hx')
    cases q with
    | nil =>
      have e : stp m R (.tuple []) = none := rfl
      rw [e]
      push_cast [isT_t, Bool.not_true, Bool.not_false]
      exact ⟨_, rfl⟩
    | cons k q =>
    have el := gEq_lay (x := k) (y := .str "load") (lay_up (by omega) (lay_tm hx k (by simp))) (by decide +kernel)
    have ej := gEq_lay (x := k) (y := .str "join") (lay_up (by omega) (lay_tm hx k (by simp))) (by decide +kernel)
    obtain ⟨r1, lc1, er1⟩ := dlc1 (δ := [some (.d (.int m)), some (.d l), some (.own (R.map rD)), some (.d (.tuple (k :: q))), x4, x5, none]) rfl rfl (by rw [List.length_cons] at hql; omega) (fun x hx' => hnd x (List.mem_cons_of_mem _ hx'))
    cases hI : q.all isI with
    | false =>
      have e : stp m R (.tuple (k :: q)) = none := by
        match q, hI with
        | [], h => simp at h
        | [_], _ => rfl
        | [a, b], h =>
          have : (isI a && isI b) = false := by rw [← h]; simp
          show (if _ then _ else _) = _
          rw [this]; rfl
        | [a, b, c], h =>
          have : (isI a && isI b && isI c) = false := by rw [← h]; simp [Bool.and_assoc]
          show (if _ then _ else _) = _
          rw [this]; rfl
        | _ :: _ :: _ :: _ :: _, _ => rfl
      rw [e]
      rw [hI] at er1
      push_cast [isT_t, Bool.not_true, Bool.not_false, lc1, keepO, er1]
      exact ⟨_, rfl⟩
    | true =>
      rw [hI] at er1
      obtain ⟨r2, lc2, er2⟩ := dlc2 (m := m) (δ := [some (.d (.int m)), some (.d l), some (.own (R.map rD)), some (.d (.tuple (k :: q))), x4, x5, none]) rfl rfl rfl (by rw [List.length_cons] at hql; omega) (fun x hx' => by simpa using List.all_eq_true.mp hI x hx')
      match q, hI with
      | [], _ =>
        have e : stp m R (.tuple [k]) = none := rfl
        rw [e]
        have n3 : decide (((0 + 1 : Nat) : Int) = 3) = false := by decide
        have n4 : decide (((0 + 1 : Nat) : Int) = 4) = false := by decide
        push_cast [isT_t, Bool.not_true, Bool.not_false, lc1, keepO, er1, n3, n4]
        exact ⟨_, rfl⟩
      | [z], _ =>
        have e : stp m R (.tuple [k, z]) = none := rfl
        rw [e]
        have n3 : decide (((0 + 1 + 1 : Nat) : Int) = 3) = false := by decide
        have n4 : decide (((0 + 1 + 1 : Nat) : Int) = 4) = false := by decide
        push_cast [isT_t, Bool.not_true, Bool.not_false, lc1, keepO, er1, n3, n4]
        exact ⟨_, rfl⟩
      | [a, b], hI =>
        have es : stp m R (.tuple [k, a, b]) = if (isI a && isI b && inR m a && PyData.eqv k (.str "load")) = true then some (R.set (iv a).toNat (some (.leaf (iv b)))) else none := rfl
        have n3 : decide (((0 + 1 + 1 + 1 : Nat) : Int) = 3) = true := by decide
        have n4 : decide (((0 + 1 + 1 + 1 : Nat) : Int) = 4) = false := by decide
        have hI : (isI a && isI b) = true := by simpa using hI
        rw [es, hI, Bool.true_and]
        rw [Bool.and_eq_true] at hI
        obtain ⟨i, rfl⟩ : ∃ i, a = .int i := ⟨_, isI_of hI.1⟩
        obtain ⟨j, rfl⟩ : ∃ j, b = .int j := ⟨_, isI_of hI.2⟩
        have ei : inR m (.int i) = (decide (0 ≤ i) && decide (i < m)) := rfl
        rw [ei]
        cases hk : PyData.eqv k (.str "load") with
        | false =>
          push_cast [isT_t, Bool.not_true, Bool.not_false, lc1, keepO, er1, n3, n4, el, hk, Bool.and_false]
          exact ⟨_, rfl⟩
        | true =>
          by_cases h0 : 0 ≤ i
          · by_cases h1 : i < m
            · obtain ⟨i, rfl⟩ := Int.eq_ofNat_of_zero_le h0
              have hiR : i < (R.map rD).length := by rw [List.length_map]; omega
              have ix := ix_n hiR
              simp only [h0, h1, decide_true, Bool.and_self, if_true]
              refine ⟨x4, x5, ?_⟩
              push_cast [isT_t, Bool.not_true, lc1, keepO, er1, n3, h0, h1, decide_true, el, hk, ix]
              rw [List.map_set]
              rfl
            · push_cast [isT_t, Bool.not_true, lc1, keepO, er1, n3, n4, h0, h1, decide_true, decide_false, el, hk, Bool.and_false, Bool.false_and]
              exact ⟨_, rfl⟩
          · push_cast [isT_t, Bool.not_true, lc1, keepO, er1, n3, n4, h0, decide_true, decide_false, el, hk, Bool.and_false, Bool.false_and]
            exact ⟨_, rfl⟩
      | [a, b, c], hI =>
        have es : stp m R (.tuple [k, a, b, c]) = if (isI a && isI b && isI c && inR m a && inR m b && inR m c && PyData.eqv k (.str "join")) = true then jn R (iv a) (iv b) (iv c) else none := rfl
        have n3 : decide (((0 + 1 + 1 + 1 + 1 : Nat) : Int) = 3) = false := by decide
        have n4 : decide (((0 + 1 + 1 + 1 + 1 : Nat) : Int) = 4) = true := by decide
        have hI : (isI a && isI b && isI c) = true := by simpa [Bool.and_assoc] using hI
        have all3 : [a, b, c].all (inR m) = (inR m a && inR m b && inR m c) := by simp [Bool.and_assoc]
        rw [all3] at er2
        have e0 : (isI a && isI b && isI c && inR m a && inR m b && inR m c && PyData.eqv k (.str "join")) = ((isI a && isI b && isI c) && (inR m a && inR m b && inR m c) && PyData.eqv k (.str "join")) := by simp only [Bool.and_assoc]
        rw [es, e0, hI, Bool.true_and]
        rw [Bool.and_eq_true, Bool.and_eq_true] at hI
        obtain ⟨i, rfl⟩ : ∃ i, a = .int i := ⟨_, isI_of hI.1.1⟩
        obtain ⟨j, rfl⟩ : ∃ j, b = .int j := ⟨_, isI_of hI.1.2⟩
        obtain ⟨c, rfl⟩ : ∃ i, c = .int i := ⟨_, isI_of hI.2⟩
        cases hj : PyData.eqv k (.str "join") with
        | false =>
          push_cast [isT_t, Bool.not_true, Bool.not_false, lc1, keepO, er1, n3, n4, ej, hj, Bool.and_false]
          exact ⟨_, rfl⟩
        | true =>
        cases hr : (inR m (.int i) && inR m (.int j) && inR m (.int c)) with
        | false =>
          rw [hr] at er2
          push_cast [isT_t, Bool.not_true, Bool.not_false, lc1, lc2, er2, keepO, er1, n3, n4, ej, hj, Bool.and_false]
          exact ⟨_, rfl⟩
        | true =>
          rw [hr] at er2
          have ei : ∀ i, inR m (.int i) = (decide (0 ≤ i) && decide (i < m)) := fun _ => rfl
          simp only [ei, Bool.and_eq_true, decide_eq_true_eq] at hr
          obtain ⟨⟨⟨h0, h1⟩, q0, q1⟩, p0, p1⟩ := hr
          obtain ⟨i, rfl⟩ := Int.eq_ofNat_of_zero_le h0
          obtain ⟨j, rfl⟩ := Int.eq_ofNat_of_zero_le q0
          obtain ⟨c, rfl⟩ := Int.eq_ofNat_of_zero_le p0
          have hiR : i < (R.map rD).length := by rw [List.length_map]; omega
          have ix := ix_n hiR
          have hjR : j < R.length := by omega
          have hcR : c < R.length := by omega
          obtain ⟨o1, e1⟩ : ∃ o, R[j]? = some o := ⟨_, List.getElem?_eq_getElem hjR⟩
          obtain ⟨o2, e2⟩ : ∃ o, R[c]? = some o := ⟨_, List.getElem?_eq_getElem hcR⟩
          have a1 := rg_at e1
          have a2 := rg_at e2
          have jj : jn R (iv (.int (i : Int))) (iv (.int (j : Int))) (iv (.int (c : Int))) = (match some o1, some o2 with
            | some (some s), some (some t) => if max s.dep t.dep + 1 ≤ 12 then some (R.set i (some (.node s t))) else none
            | _, _ => none) := by
            rw [← e1, ← e2]; rfl
          rw [jj]
          simp only [Bool.and_self, if_true]
          cases o1 with
          | none =>
            have : isNo (rD none) = true := rfl
            push_cast [isT_t, Bool.not_true, Bool.not_false, lc1, lc2, er2, keepO, er1, n3, n4, ej, hj, a1, a2, gisn, this, List.reverse_cons, List.reverse_nil, List.map_cons, List.map_nil]
            exact ⟨_, rfl⟩
          | some s =>
            have t1 : isNo (rD (some s)) = false := by cases s <;> rfl
            cases o2 with
            | none =>
              have t2 : isNo (rD none) = true := rfl
              push_cast [isT_t, Bool.not_true, Bool.not_false, lc1, lc2, er2, keepO, er1, n3, n4, ej, hj, a1, a2, gisn, t1, t2, List.reverse_cons, List.reverse_nil, List.map_cons, List.map_nil]
              exact ⟨_, rfl⟩
            | some t =>
              have t2 : isNo (rD (some t)) = false := by cases t <;> rfl
              have ed : m__law_depth [.d (.tuple [rD (some s), rD (some t)])] = .ret (.d (.int (Tr.node s t).dep)) [] := v__law_depth 20 (.node s t) (by
                have hs' : s.dep ≤ 12 := hok s (List.mem_of_getElem? e1)
                have ht' : t.dep ≤ 12 := hok t (List.mem_of_getElem? e2)
                rw [Tr.dep]; omega)
              by_cases hd : max s.dep t.dep + 1 ≤ 12
              · have hg : ¬ 12 < ((Tr.node s t).dep : Int) := by rw [Tr.dep]; omega
                simp only [hd, if_true]
                refine ⟨some (.d (rD (some s))), some (.d (rD (some t))), ?_⟩
                push_cast [isT_t, Bool.not_true, Bool.not_false, lc1, lc2, er2, keepO, er1, n3, n4, ej, hj, a1, a2, gisn, t1, t2, ed, hg, decide_false, ix, List.reverse_cons, List.reverse_nil, List.map_cons, List.map_nil]
                rw [List.map_set]
                rfl
              · have hg : 12 < ((Tr.node s t).dep : Int) := by rw [Tr.dep]; omega
                simp only [hd, if_false]
                push_cast [isT_t, Bool.not_true, Bool.not_false, lc1, lc2, er2, keepO, er1, n3, n4, ej, hj, a1, a2, gisn, t1, t2, ed, hg, decide_true, List.reverse_cons, List.reverse_nil, List.map_cons, List.map_nil]
                exact ⟨_, rfl⟩
      | a :: b :: c :: d :: e, _ =>
        have es : stp m R (.tuple (k :: a :: b :: c :: d :: e)) = none := rfl
        rw [es]
        have n3 : decide (((e.length + 1 + 1 + 1 + 1 + 1 : Nat) : Int) = 3) = false := decide_eq_false (by omega)
        have n4 : decide (((e.length + 1 + 1 + 1 + 1 + 1 : Nat) : Int) = 4) = false := decide_eq_false (by omega)
        push_cast [isT_t, Bool.not_true, Bool.not_false, lc1, keepO, er1, n3, n4]
        exact ⟨_, rfl⟩
  · have e : stp m R x = none := by
      cases x <;> first | rfl | (rename_i q; exact absurd ⟨q, rfl⟩ ht)
    rw [e]
    push_cast [isT_n (lay_ndt hx) (fun l e => ht ⟨l, e⟩), Bool.not_false]
    exact ⟨_, rfl⟩
theorem rep_none {n : Nat} : (List.replicate n [PyData.none]).flatten = (List.replicate n none).map rD := by
  induction n with
  | zero => rfl
  | succ n ih => rw [List.replicate_succ, List.replicate_succ, List.flatten_cons, ih]; rfl
theorem oks_nil {n : Nat} : oks (List.replicate n none) := fun t h => by
  have := List.eq_of_mem_replicate h
  cases this
theorem lp_run {m : Nat} {l : D} (hm : m ≤ 60) : ∀ (q : List D) (R : List (Option Tr)) (x3 x4 : Option T), (∀ x ∈ q, lay 62 x = true ∧ rsz x ≤ 16777216) → R.length = m → oks R →
    match runR m R q with
    | some R' => (∃ x3' x4', forL (.nm 3) f1_run_of q (rE m l R x3 x4 none) = .nx (rE m l R' x3' x4' none)) ∧ R'.length = m ∧ oks R'
    | none => ∃ δ, forL (.nm 3) f1_run_of q (rE m l R x3 x4 none) = .rt (.d .none) δ
  | [], R, x3, x4, _, hR, hok => ⟨⟨x3, x4, rfl⟩, hR, hok⟩
  | x :: q, R, x3, x4, hq, hR, hok => by
    obtain ⟨hx, hs⟩ := hq x (List.mem_cons_self ..)
    have st := st_run (l := l) hx hs hR hm hok (x4 := x4)
    have e0 : forL (.nm 3) f1_run_of (x :: q) (rE m l R x3 x4 none) = fL2 (.nm 3) f1_run_of q (f1_run_of (rE m l R (some (.d x)) x4 none)) := by
      rw [fL_S, aT_n, fL1_s]
      rfl
    rw [runR, e0]
    cases hst : stp m R x with
    | none =>
      rw [hst] at st
      obtain ⟨δ, e⟩ := st
      rw [e]
      exact ⟨δ, rfl⟩
    | some R1 =>
      rw [hst] at st
      obtain ⟨⟨y4, e⟩, hR1, hok1⟩ := st
      rw [e, fL2_n, Option.bind_some]
      exact lp_run hm q R1 _ _ (fun z hz => hq z (List.mem_cons_of_mem _ hz)) hR1 hok1
theorem lp_done {m : Nat} {l : D} (hm : m ≤ 60) : ∀ (q : List D) (R : List (Option Tr)) (x3 x4 x5 : Option T), (∀ x ∈ q, lay 62 x = true ∧ rsz x ≤ 16777216) → R.length = m → oks R →
    match runR m R q with
    | some R' => ∃ x3' x4' x5', forL (.nm 3) f1__law_done q (dE m l R x3 x4 x5 none) = .nx (dE m l R' x3' x4' x5' none)
    | none => ∃ δ, forL (.nm 3) f1__law_done q (dE m l R x3 x4 x5 none) = .rt (.d .none) δ
  | [], R, x3, x4, x5, _, hR, hok => ⟨x3, x4, x5, rfl⟩
  | x :: q, R, x3, x4, x5, hq, hR, hok => by
    obtain ⟨hx, hs⟩ := hq x (List.mem_cons_self ..)
    have st := st_done (l := l) hx hs hR hm hok (x4 := x4) (x5 := x5)
    have st2 := st_run (l := l) hx hs hR hm hok (x4 := x4)
    have e0 : forL (.nm 3) f1__law_done (x :: q) (dE m l R x3 x4 x5 none) = fL2 (.nm 3) f1__law_done q (f1__law_done (dE m l R (some (.d x)) x4 x5 none)) := by
      rw [fL_S, aT_n, fL1_s]
      rfl
    rw [runR, e0]
    cases hst : stp m R x with
    | none =>
      rw [hst] at st
      obtain ⟨δ, e⟩ := st
      rw [e]
      exact ⟨δ, rfl⟩
    | some R1 =>
      rw [hst] at st st2
      obtain ⟨y4, y5, e⟩ := st
      obtain ⟨_, hR1, hok1⟩ := st2
      rw [e, fL2_n, Option.bind_some]
      exact lp_done hm q R1 _ _ _ (fun z hz => hq z (List.mem_cons_of_mem _ hz)) hR1 hok1
def runs (m : Nat) : D → Option (List (Option Tr))
  | .tuple q => runR m (List.replicate m none) q
  | _ => none
theorem v_run_of {m : Nat} (hm : m ≤ 60) {x : D} (hx : lay 63 x = true) (hs : rsz x ≤ 16777216) :
    (match runs m x with
    | some R => m_run_of [.d (.int m), .d x] = .ret (.own (R.map rD)) [] ∧ R.length = m ∧ oks R
    | none => m_run_of [.d (.int m), .d x] = .ret (.d .none) []) ∧
    (match runs m x with
    | some R => m__law_done [.d (.int m), .d x] = .ret (.d (.tuple (R.map rD))) []
    | none => m__law_done [.d (.int m), .d x] = .ret (.d .none) []) := by
  rw [u_run_of, u__law_done]
  unfold b_run_of b__law_done
  by_cases ht : ∃ l, x = .tuple l
  · obtain ⟨q, rfl⟩ := ht
    have hq : ∀ x ∈ q, lay 62 x = true ∧ rsz x ≤ 16777216 := fun x hx' => by
      obtain ⟨k, e, h⟩ := lay_t hx
      obtain rfl : k = 62 := by omega
      have e2 : rsz (.tuple q) = rszs q + 3 := by simp only [rsz]
      have := rszs_mem hx'
      exact ⟨lays_mem h x hx', by omega⟩
    have a := lp_run (l := .tuple q) hm q (List.replicate m none) none none hq (by simp) oks_nil
    have b := lp_done (l := .tuple q) hm q (List.replicate m none) none none none hq (by simp) oks_nil
    have nm := nmul_l (l := [PyData.none]) (n := m) (by simp; omega) (by omega)
    rw [rep_none] at nm
    have pn := fun (δ : Dl.Env) (h : δ.getD 0 none = some (.d (.int m))) => p_newM (g := nMul) (fa := lstE [cst .none]) (fb := var 0) (δ := δ) (δ1 := δ) (δ2 := δ) (x := .list [.none]) (y := .int m) (by push_cast []) (by push_cast [h])
    rw [nm] at pn
    have pn1 := pn [some (.d (.int m)), some (.d (.tuple q)), none, none, none, none] rfl
    have pn2 := pn [some (.d (.int m)), some (.d (.tuple q)), none, none, none, none, none] rfl
    have er : runs m (.tuple q) = runR m (List.replicate m none) q := rfl
    rw [er]
    unfold rE at a
    unfold dE at b
    cases hr : runR m (List.replicate m none) q with
    | none =>
      rw [hr] at a b
      obtain ⟨δ1, e1⟩ := a
      obtain ⟨δ2, e2⟩ := b
      exact ⟨by push_cast [isT_t, Bool.not_true, pn1, e1], by push_cast [isT_t, Bool.not_true, pn2, e2]⟩
    | some R =>
      rw [hr] at a b
      obtain ⟨⟨_, _, e1⟩, h1, h2⟩ := a
      obtain ⟨_, _, _, e2⟩ := b
      refine ⟨⟨by push_cast [isT_t, Bool.not_true, pn1, e1], h1, h2⟩, ?_⟩
      push_cast [isT_t, Bool.not_true, pn2, e2]
      first | done | rfl
  · have e : runs m x = none := by
      cases x <;> first | rfl | (rename_i q; exact absurd ⟨q, rfl⟩ ht)
    rw [e]
    exact ⟨by push_cast [isT_n (lay_ndt hx) (fun l e => ht ⟨l, e⟩), Bool.not_false], by push_cast [isT_n (lay_ndt hx) (fun l e => ht ⟨l, e⟩), Bool.not_false]⟩
theorem tr_eqv : ∀ (s t : Tr), PyData.eqv s.d t.d = decide (s = t)
  | .leaf i, .leaf j => by
    rw [Tr.d, Tr.d, PyData.eqv]
    by_cases h : i = j
    · subst h; simp
    · rw [decide_eq_false (by simp [h])]; simpa using h
  | .leaf i, .node _ _ => by simp [Tr.d, PyData.eqv]
  | .node _ _, .leaf j => by simp [Tr.d, PyData.eqv]
  | .node a b, .node c d => by
    rw [Tr.d, Tr.d, PyData.eqv, PyData.eqvAll, PyData.eqvAll, PyData.eqvAll, tr_eqv a c, tr_eqv b d]
    simp
theorem isno_l {l : List D} : isNo (.list l) = false := rfl
theorem isno_t {l : List D} : isNo (.tuple l) = false := rfl
theorem isno_n : isNo .none = true := rfl
theorem rD_eqv (o : Option Tr) (t : Tr) : PyData.eqv (rD o) t.d = decide (o = some t) := by
  cases o with
  | none => cases t <;> simp [rD, Tr.d, PyData.eqv]
  | some s => rw [rD, tr_eqv]; simp
theorem ok_deeds : okD (.str "deeds") = true := by decide
theorem ok_many : okD (.str "many") = true := by decide
theorem ok_numbers : okD (.str "numbers") = true := by decide
theorem dep_lay {t : Tr} (h : t.dep ≤ 12) : lay 12 t.d = true := lay_up h (tr_lay t)
theorem ck_tree {t : Tr} (h : t.dep ≤ 12) : m_check_tree [.d t.d] = .ret (.d .none) [] := by
  rw [v_check_tree (lay_up (m := 63) (by omega) (dep_lay h)), isTr_d, decide_eq_true h, if_pos rfl]
theorem v_accept_deeds {t : Tr} (ht : t.dep ≤ 12) {m : Nat} (hm : m ≤ 60) {x : D} (hx : lay 63 x = true) (hs : rsz x ≤ 16777216) :
    m_accept_deeds [.d t.d, .d (.int m), .d x] = match runs m x with
      | some R => if R[0]? = some (some t) then .ret (.d .none) [] else PE "tree"
      | none => PE "deeds" := by
  have e0 := ck_tree ht
  have e1 := v_is_integer (x := .int m) rfl
  have hi : isI (.int m) = true := rfl
  have r1 : decide ((0 : Int) ≤ m) = true := decide_eq_true (by omega)
  have r2 : decide ((m : Int) ≤ 60) = true := decide_eq_true (by omega)
  obtain ⟨e2, _⟩ := v_run_of hm hx hs
  rw [u_accept_deeds]
  unfold b_accept_deeds
  cases hr : runs m x with
  | none =>
    rw [hr] at e2
    push_cast [e0, e1, hi, r1, r2, e2, Bool.not_true, gisn, isno_l, isno_t, isno_n, ok_deeds, ok_tree]
    rfl
  | some R =>
    rw [hr] at e2
    obtain ⟨e2, hR, hok⟩ := e2
    cases R with
    | nil =>
      push_cast [e0, e1, hi, r1, r2, e2, Bool.not_true, gisn, isno_l, isno_t, isno_n, ok_deeds, ok_tree, List.map_nil, Bool.not_false, Bool.not_true]
      rfl
    | cons o R =>
      have ne := gNe_lay (x := rD o) (y := t.d) (lay_up (m := 64) (by omega) (rD_lay hok (n := 0) rfl)) (lay_up (m := 64) (by omega) (dep_lay ht))
      rw [rD_eqv] at ne
      by_cases h : o = some t
      · subst h
        rw [decide_eq_true rfl, Bool.not_true] at ne
        push_cast [e0, e1, hi, r1, r2, e2, Bool.not_true, gisn, isno_l, isno_t, isno_n, ok_deeds, ok_tree, List.map_cons, ne]
      · rw [decide_eq_false h, Bool.not_false] at ne
        push_cast [e0, e1, hi, r1, r2, e2, Bool.not_true, gisn, isno_l, isno_t, isno_n, ok_deeds, ok_tree, List.map_cons, ne, h, Option.some.injEq]
        rfl
theorem v_run_deeds {m : Nat} (hm : m ≤ 60) {x : D} (hx : lay 63 x = true) (hs : rsz x ≤ 16777216) :
    m_run_deeds [.d (.int m), .d x] = match runs m x with
      | some R => .ret (.d (.tuple (R.map rD))) []
      | none => AE "deeds" := by
  have e1 := v_is_integer (x := .int m) rfl
  have hi : isI (.int m) = true := rfl
  have r1 : decide ((0 : Int) ≤ m) = true := decide_eq_true (by omega)
  have r2 : decide ((m : Int) ≤ 60) = true := decide_eq_true (by omega)
  obtain ⟨e2, _⟩ := v_run_of hm hx hs
  rw [u_run_deeds]
  unfold b_run_deeds
  cases hr : runs m x with
  | none =>
    rw [hr] at e2
    push_cast [e1, hi, r1, r2, e2, Bool.not_true, gisn, isno_l, isno_t, isno_n, ok_deeds]
    rfl
  | some R =>
    rw [hr] at e2
    push_cast [e1, hi, r1, r2, e2.1, Bool.not_true, gisn, isno_l, isno_t, isno_n]
    first | done | rfl
/-! sizes -/
theorem tr_rsz : ∀ t : Tr, rsz t.d + 7 ≤ 54 * 2 ^ t.dep
  | .leaf _ => by simp [Tr.d, rsz, Tr.dep]
  | .node a b => by
    have ha := tr_rsz a
    have hb := tr_rsz b
    have h1 : 2 ^ a.dep ≤ 2 ^ max a.dep b.dep := Nat.pow_le_pow_right (by omega) (Nat.le_max_left ..)
    have h2 : 2 ^ b.dep ≤ 2 ^ max a.dep b.dep := Nat.pow_le_pow_right (by omega) (Nat.le_max_right ..)
    rw [Tr.dep, Nat.pow_succ]
    simp only [Tr.d, rsz, rszs]
    omega
theorem tr_sz12 {t : Tr} (h : t.dep ≤ 12) : rsz t.d ≤ 221177 := by
  have := tr_rsz t
  have h1 : 2 ^ t.dep ≤ 2 ^ 12 := Nat.pow_le_pow_right (by omega) h
  omega
def Tr.lv (M : Int) : Tr → Prop
  | .leaf i => -M ≤ i ∧ i ≤ M
  | .node a b => a.lv M ∧ b.lv M
theorem lv_bd : ∀ {t : Tr} {M : Int}, t.lv M → bd M t.d = true
  | .leaf i, M, h => by simp only [Tr.d, bd, Bool.and_eq_true, decide_eq_true_eq]; exact h
  | .node a b, M, h => by
    simp only [Tr.d, bd, bds, Bool.and_eq_true, and_true]
    exact ⟨lv_bd h.1, lv_bd h.2⟩
theorem tr_gv {t : Tr} {M : Int} (h : t.dep ≤ 12) (hl : t.lv M) : GV 12 221177 M t.d := ⟨dep_lay h, lv_bd hl, tr_sz12 h⟩
theorem nums_rsz : ∀ t : Tr, rsz t.nums + 56 ≤ 103 * 2 ^ t.dep
  | .leaf _ => by simp [Tr.nums, rsz, Tr.dep]
  | .node a b => by
    have ha := nums_rsz a
    have hb := nums_rsz b
    have h1 : 2 ^ a.dep ≤ 2 ^ max a.dep b.dep := Nat.pow_le_pow_right (by omega) (Nat.le_max_left ..)
    have h2 : 2 ^ b.dep ≤ 2 ^ max a.dep b.dep := Nat.pow_le_pow_right (by omega) (Nat.le_max_right ..)
    rw [Tr.dep, Nat.pow_succ]
    simp only [Tr.nums, rsz, rszs]
    omega
theorem nums_bd : ∀ t : Tr, bd (t.dep + 1) t.nums = true
  | .leaf _ => by simp [Tr.nums, bd, Tr.dep]
  | .node a b => by
    have h := need_pos (.node a b)
    have ha := bd_up (K := ((Tr.node a b).dep : Int) + 1) (by rw [Tr.dep]; omega) (nums_bd a)
    have hb := bd_up (K := ((Tr.node a b).dep : Int) + 1) (by rw [Tr.dep]; omega) (nums_bd b)
    simp only [Tr.nums, bd, bds, Bool.and_eq_true, and_true, decide_eq_true_eq]
    exact ⟨⟨by omega, by omega⟩, ha, hb⟩
theorem nums_gv {t : Tr} (h : t.dep ≤ 12) : GV 12 421832 13 t.nums := by
  refine ⟨lay_up h (nums_lay t), bd_up (by omega) (nums_bd t), ?_⟩
  have := nums_rsz t
  have h1 : 2 ^ t.dep ≤ 2 ^ 12 := Nat.pow_le_pow_right (by omega) h
  omega
theorem v__law_deeds_due {t : Tr} (ht : t.dep ≤ 12) {M : Int} (hl : t.lv M) (hM : M < 10 ^ 45) {m : Nat} (hm : m ≤ 60) {x : D} (hx : lay 63 x = true) (hs : rsz x ≤ 16777216) :
    m__law_deeds_due [.d t.d, .d (.int m), .d x] = match runs m x with
      | some R => if R[0]? = some (some t) then .ret (.d (.list [.none])) [] else .ret (.d (.str "paper tree")) []
      | none => .ret (.d (.str "paper deeds")) [] := by
  obtain ⟨_, e2⟩ := v_run_of hm hx hs
  rw [u__law_deeds_due]
  unfold b__law_deeds_due
  cases hr : runs m x with
  | none =>
    rw [hr] at e2
    push_cast [e2, gisn, isno_l, isno_t, isno_n]
  | some R =>
    rw [hr] at e2
    have hok := (v_run_of hm hx hs).1
    rw [hr] at hok
    obtain ⟨_, hR, hok⟩ := hok
    cases R with
    | nil =>
      push_cast [e2, gisn, isno_l, isno_t, isno_n, List.map_nil, Bool.not_true]
      rfl
    | cons o R =>
      have eq := gEq_lay (x := rD o) (y := t.d) (lay_up (m := 64) (by omega) (rD_lay hok (n := 0) rfl)) (lay_up (m := 64) (by omega) (dep_lay ht))
      rw [rD_eqv] at eq
      by_cases h : o = some t
      · subst h
        rw [decide_eq_true rfl] at eq
        have rp := gv_repr (tr_gv ht hl) (by omega) (by omega) hM
        have rp2 : gRepr [rD (some t)] = some (.str t.d.shown) := rp
        push_cast [e2, gisn, isno_l, isno_t, isno_n, List.map_cons, Bool.not_false, eq, rp, rp2, beq_self_eq_true]
      · rw [decide_eq_false h] at eq
        push_cast [e2, gisn, isno_l, isno_t, isno_n, List.map_cons, Bool.not_false, eq, h, Option.some.injEq]
/-! ### the law's deeds -/
def loadD (f : Nat) (i : Int) : D := .tuple [.str "load", .int f, .int i]
def joinD (f a b : Nat) : D := .tuple [.str "join", .int f, .int a, .int b]
def ldeeds : Tr → Nat → List D
  | .leaf i, f => [loadD f i]
  | .node a b, f => if a.need < b.need then ldeeds b f ++ ldeeds a (f + 1) ++ [joinD f (f + 1) f] else ldeeds a f ++ ldeeds b (f + 1) ++ [joinD f f (f + 1)]
theorem ldeeds_len : ∀ (t : Tr) (f : Nat), (ldeeds t f).length + 1 ≤ 2 ^ (t.dep + 1)
  | .leaf _, _ => by simp [ldeeds, Tr.dep]
  | .node a b, f => by
    have h1 : 2 ^ (a.dep + 1) ≤ 2 ^ (max a.dep b.dep + 1) := Nat.pow_le_pow_right (by omega) (by omega)
    have h2 : 2 ^ (b.dep + 1) ≤ 2 ^ (max a.dep b.dep + 1) := Nat.pow_le_pow_right (by omega) (by omega)
    have := ldeeds_len a f
    have := ldeeds_len a (f + 1)
    have := ldeeds_len b f
    have := ldeeds_len b (f + 1)
    rw [ldeeds, Tr.dep, Nat.pow_succ 2 (max a.dep b.dep + 1)]
    split <;> simp only [List.length_append, List.length_cons, List.length_nil] <;> omega
theorem gv_load {f : Nat} {i : Int} {M : Int} (h : (f : Int) ≤ M) (h1 : -M ≤ i) (h2 : i ≤ M) : GV 1 300 M (loadD f i) := by
  unfold loadD
  rw [gv_t]
  have so : PyData.strOk "load" = true := by decide +kernel
  have sl : Str.length "load" = 4 := by decide
  refine ⟨fun x hx => ?_, by simp only [rszs, rsz, sl]; omega⟩
  simp only [List.mem_cons, List.not_mem_nil, or_false] at hx
  rcases hx with rfl | rfl | rfl <;> simp only [lay, bd, so, Bool.and_eq_true, decide_eq_true_eq, true_and, and_self] <;> omega
theorem gv_join {f a b : Nat} {M : Int} (h : (f : Int) ≤ M) (h1 : (a : Int) ≤ M) (h2 : (b : Int) ≤ M) : GV 1 300 M (joinD f a b) := by
  unfold joinD
  rw [gv_t]
  have so : PyData.strOk "join" = true := by decide +kernel
  have sl : Str.length "join" = 4 := by decide
  refine ⟨fun x hx => ?_, by simp only [rszs, rsz, sl]; omega⟩
  simp only [List.mem_cons, List.not_mem_nil, or_false] at hx
  rcases hx with rfl | rfl | rfl | rfl <;> simp only [lay, bd, so, Bool.and_eq_true, decide_eq_true_eq, true_and, and_self] <;> omega
theorem ldeeds_gv : ∀ (t : Tr) (f : Nat) (M : Int), t.lv M → (f : Int) + t.dep ≤ M → ∀ x ∈ ldeeds t f, GV 1 300 M x
  | .leaf i, f, M, h, hf, x, hx => by
    simp only [ldeeds, List.mem_cons, List.not_mem_nil, or_false] at hx
    subst hx
    rw [Tr.dep] at hf
    exact gv_load (by omega) h.1 h.2
  | .node a b, f, M, h, hf, x, hx => by
    rw [Tr.dep] at hf
    rw [ldeeds] at hx
    split at hx
    · simp only [List.mem_append, List.mem_cons, List.not_mem_nil, or_false] at hx
      rcases hx with (hx | hx) | rfl
      · exact ldeeds_gv b f M h.2 (by omega) x hx
      · exact ldeeds_gv a (f + 1) M h.1 (by omega) x hx
      · exact gv_join (by omega) (by omega) (by omega)
    · simp only [List.mem_append, List.mem_cons, List.not_mem_nil, or_false] at hx
      rcases hx with (hx | hx) | rfl
      · exact ldeeds_gv a f M h.1 (by omega) x hx
      · exact ldeeds_gv b (f + 1) M h.2 (by omega) x hx
      · exact gv_join (by omega) (by omega) (by omega)
theorem ldeeds_gvt {t : Tr} (h : t.dep ≤ 12) {M : Int} (hl : t.lv M) (hM : 12 ≤ M) : GV 2 2474000 M (.tuple (ldeeds t 0)) := by
  have := ldeeds_len t 0
  have h1 : 2 ^ (t.dep + 1) ≤ 2 ^ 13 := Nat.pow_le_pow_right (by omega) (by omega)
  exact gv_up (Nat.le_refl _) (by omega) (Int.le_refl _) (gv_ti (k := 8191) (by omega) (ldeeds_gv t 0 M hl (by omega)))
theorem need_of {δ : Dl.Env} : True := trivial
theorem v__law_deeds : ∀ (k : Nat) (t : Tr) (f : Nat), t.dep < k → t.dep ≤ 12 → recM r__law_deeds k [.d t.d, .d (.int f)] = .ret (.d (.tuple (ldeeds t f))) [] := by
  intro k
  induction k with
  | zero => intro t f h; omega
  | succ k ih =>
    intro t f h h12
    rw [u__law_deeds]
    unfold b__law_deeds
    cases t with
    | leaf i =>
      have : isT "tuple" (Tr.leaf i).d = some (.bool false) := rfl
      push_cast [this, Bool.not_false]
      rfl
    | node a b =>
      have hlen := ldeeds_len (.node a b) f
      have h13 : 2 ^ ((Tr.node a b).dep + 1) ≤ 2 ^ 13 := Nat.pow_le_pow_right (by omega) (by omega)
      rw [Tr.dep] at h h12
      have na : m__law_need [.d a.d] = .ret (.d (.int a.need)) [] := v__law_need 20 a (by omega)
      have nb : m__law_need [.d b.d] = .ret (.d (.int b.need)) [] := v__law_need 20 b (by omega)
      have a0 := ih a f (by omega) (by omega)
      have a1 := ih a (f + 1) (by omega) (by omega)
      have b0 := ih b f (by omega) (by omega)
      have b1 := ih b (f + 1) (by omega) (by omega)
      have ef : (f : Int) + 1 = ((f + 1 : Nat) : Int) := by omega
      rw [Tr.d]
      rw [ldeeds] at hlen ⊢
      by_cases hq : a.need < b.need
      · have hq' : decide ((a.need : Int) < (b.need : Int)) = true := decide_eq_true (by omega)
        rw [if_pos hq] at hlen ⊢
        have g1 := gadd_t (l := ldeeds b f) (m := ldeeds a (f + 1)) (by simp at hlen; omega)
        have g2 := gadd_t (l := ldeeds b f ++ ldeeds a (f + 1)) (m := [joinD f (f + 1) f]) (by simp at hlen ⊢; omega)
        unfold joinD at g2
        push_cast [isT_t, Bool.not_true, na, nb, hq', b0, a1, ef, g1, g2]
        rfl
      · have hq' : decide ((a.need : Int) < (b.need : Int)) = false := decide_eq_false (by omega)
        rw [if_neg hq] at hlen ⊢
        have g1 := gadd_t (l := ldeeds a f) (m := ldeeds b (f + 1)) (by simp at hlen; omega)
        have g2 := gadd_t (l := ldeeds a f ++ ldeeds b (f + 1)) (m := [joinD f f (f + 1)]) (by simp at hlen ⊢; omega)
        unfold joinD at g2
        push_cast [isT_t, Bool.not_true, na, nb, hq', a0, b1, ef, g1, g2]
        rfl
/-! what they come to -/
theorem runR_app {m : Nat} : ∀ (l1 l2 : List D) (R : List (Option Tr)), runR m R (l1 ++ l2) = (runR m R l1).bind fun R' => runR m R' l2
  | [], l2, R => rfl
  | x :: l1, l2, R => by
    rw [List.cons_append, runR, runR]
    cases stp m R x with
    | none => rfl
    | some R1 => rw [Option.bind_some, Option.bind_some, runR_app l1 l2 R1]
theorem stp_load {m f : Nat} {i : Int} {R : List (Option Tr)} (h : f < m) : stp m R (loadD f i) = some (R.set f (some (.leaf i))) := by
  have e : PyData.eqv (.str "load") (.str "load") = true := eqv_refl _ 64 (by decide +kernel)
  show (if _ then some (R.set (f : Int).toNat (some (Tr.leaf i))) else none) = _
  rw [e]
  have h1 : inR m (.int f) = true := by
    show (decide ((0 : Int) ≤ f) && decide ((f : Int) < m)) = true
    simp; omega
  rw [h1]
  rfl
theorem stp_join {m f a b : Nat} {R : List (Option Tr)} {s t : Tr} (hf : f < m) (ha : a < m) (hb : b < m) (ea : R[a]? = some (some s)) (eb : R[b]? = some (some t)) (hd : max s.dep t.dep + 1 ≤ 12) : stp m R (joinD f a b) = some (R.set f (some (.node s t))) := by
  have e : PyData.eqv (.str "join") (.str "join") = true := eqv_refl _ 64 (by decide +kernel)
  have h1 : ∀ f : Nat, f < m → inR m (.int f) = true := fun f h => by
    show (decide ((0 : Int) ≤ f) && decide ((f : Int) < m)) = true
    simp; omega
  show (if (true && true && true && inR m (.int f) && inR m (.int a) && inR m (.int b) && PyData.eqv (.str "join") (.str "join")) = true then jn R (f : Int) (a : Int) (b : Int) else none) = _
  rw [e, h1 f hf, h1 a ha, h1 b hb]
  show jn R (f : Int) (a : Int) (b : Int) = _
  unfold jn
  rw [Int.toNat_natCast, Int.toNat_natCast, Int.toNat_natCast, ea, eb]
  show (if _ then _ else _) = _
  rw [if_pos hd]
theorem run_ldeeds {m : Nat} : ∀ (t : Tr) (f : Nat) (R : List (Option Tr)), R.length = m → f + t.need ≤ m → t.dep ≤ 12 → ∃ R', runR m R (ldeeds t f) = some R' ∧ R'.length = m ∧ R'[f]? = some (some t) ∧ ∀ i, i < f ∨ f + t.need ≤ i → R'[i]? = R[i]?
  | .leaf i, f, R, hR, hf, _ => by
    rw [Tr.need] at hf
    refine ⟨R.set f (some (.leaf i)), ?_, by rw [List.length_set, hR], by rw [List.getElem?_set_self (by omega)], fun j hj => by rw [List.getElem?_set_ne (by rw [Tr.need] at hj; omega)]⟩
    rw [ldeeds, runR, stp_load (by omega)]
    rfl
  | .node a b, f, R, hR, hf, hd => by
    rw [Tr.dep] at hd
    have na := need_pos a
    have nb := need_pos b
    rw [ldeeds]
    by_cases hq : a.need < b.need
    · have hn : (Tr.node a b).need = b.need := by rw [Tr.need, if_neg (by omega)]; omega
      rw [if_pos hq]
      rw [hn] at hf ⊢
      obtain ⟨R1, e1, l1, q1, k1⟩ := run_ldeeds b f R hR (by omega) (by omega)
      obtain ⟨R2, e2, l2, q2, k2⟩ := run_ldeeds a (f + 1) R1 l1 (by omega) (by omega)
      refine ⟨R2.set f (some (.node a b)), ?_, by rw [List.length_set, l2], by rw [List.getElem?_set_self (by omega)], fun j hj => by rw [List.getElem?_set_ne (by omega), k2 j (by omega), k1 j (by omega)]⟩
      rw [runR_app, runR_app, e1, Option.bind_some, e2, Option.bind_some, runR, stp_join (s := a) (t := b) (by omega) (by omega) (by omega) q2 (by rw [k2 f (by omega), q1]) (by omega)]
      rfl
    · have hn : b.need + 1 ≤ (Tr.node a b).need ∧ a.need ≤ (Tr.node a b).need := by rw [Tr.need]; split <;> omega
      rw [if_neg hq]
      obtain ⟨R1, e1, l1, q1, k1⟩ := run_ldeeds a f R hR (by omega) (by omega)
      obtain ⟨R2, e2, l2, q2, k2⟩ := run_ldeeds b (f + 1) R1 l1 (by omega) (by omega)
      refine ⟨R2.set f (some (.node a b)), ?_, by rw [List.length_set, l2], by rw [List.getElem?_set_self (by omega)], fun j hj => by rw [List.getElem?_set_ne (by omega), k2 j (by omega), k1 j (by omega)]⟩
      rw [runR_app, runR_app, e1, Option.bind_some, e2, Option.bind_some, runR, stp_join (s := a) (t := b) (by omega) (by omega) (by omega) (by rw [k2 f (by omega), q1]) q2 (by omega)]
      rfl
theorem v_accept_numbers {t : Tr} (ht : t.dep ≤ 12) {x : D} (hx : lay 63 x = true) : m_accept_numbers [.d t.d, .d x] = if isNum t x = true then .ret (.d .none) [] else PE "numbers" := by
  have e0 := ck_tree ht
  have e1 : m_are_numbers [.d t.d, .d x] = .ret (.d (.bool (isNum t x))) [] := v_are_numbers 20 t x (by omega) hx
  rw [u_accept_numbers]
  unfold b_accept_numbers
  cases h : isNum t x <;> push_cast [e0, e1, h, Bool.not_true, Bool.not_false, ok_numbers]
  rfl
/-! what is no tree -/
theorem bad_ck {x : D} (hx : lay 63 x = true) (h : isTr 12 x = false) : m_check_tree [.d x] = AE "tree" := by
  rw [v_check_tree hx, h, if_neg (by simp)]
  rfl
theorem bad_needed {x : D} (hx : lay 63 x = true) (h : isTr 12 x = false) : m_needed [.d x] = AE "tree" := by
  have e := bad_ck hx h
  unfold AE at e
  rw [u_needed]; unfold b_needed
  push_cast [e]
  rfl
theorem bad_deeds {x : D} (hx : lay 63 x = true) (h : isTr 12 x = false) : m_deeds_for [.d x] = AE "tree" := by
  have e := bad_ck hx h
  unfold AE at e
  rw [u_deeds_for]; unfold b_deeds_for
  push_cast [e]
  rfl
theorem bad_numbered {x : D} (hx : lay 63 x = true) (h : isTr 12 x = false) : m_numbered [.d x] = AE "tree" := by
  have e := bad_ck hx h
  unfold AE at e
  rw [u_numbered]; unfold b_numbered
  push_cast [e]
  rfl
theorem bad_accD {x y z : D} (hx : lay 63 x = true) (h : isTr 12 x = false) : m_accept_deeds [.d x, .d y, .d z] = AE "tree" := by
  have e := bad_ck hx h
  unfold AE at e
  rw [u_accept_deeds]; unfold b_accept_deeds
  push_cast [e]
  rfl
theorem bad_accN {x y : D} (hx : lay 63 x = true) (h : isTr 12 x = false) : m_accept_numbers [.d x, .d y] = AE "tree" := by
  have e := bad_ck hx h
  unfold AE at e
  rw [u_accept_numbers]; unfold b_accept_numbers
  push_cast [e]
  rfl
theorem bad_many {x y : D} (hx : ndt x = true) (h : isN x 0 60 = false) : m_run_deeds [.d x, .d y] = AE "many" := by
  have e1 := v_is_integer hx
  rw [u_run_deeds]; unfold b_run_deeds
  cases hi : isI x with
  | false =>
    push_cast [e1, hi, Bool.not_false, ok_many]
    rfl
  | true =>
    obtain ⟨i, rfl⟩ : ∃ i, x = .int i := ⟨_, isI_of hi⟩
    rw [isN_i] at h
    by_cases h0 : 0 ≤ i
    · have h1 : ¬ i ≤ 60 := by intro q; rw [decide_eq_true h0, decide_eq_true q] at h; cases h
      push_cast [e1, hi, Bool.not_false, Bool.not_true, ok_many, h0, h1, decide_true, decide_false]
      rfl
    · push_cast [e1, hi, Bool.not_false, Bool.not_true, ok_many, h0, decide_false]
      rfl
theorem bad_manyD {t : Tr} (ht : t.dep ≤ 12) {x y : D} (hx : ndt x = true) (h : isN x 0 60 = false) : m_accept_deeds [.d t.d, .d x, .d y] = AE "many" := by
  have e0 := ck_tree ht
  have e1 := v_is_integer hx
  rw [u_accept_deeds]; unfold b_accept_deeds
  cases hi : isI x with
  | false =>
    push_cast [e0, e1, hi, Bool.not_false, ok_many]
    rfl
  | true =>
    obtain ⟨i, rfl⟩ : ∃ i, x = .int i := ⟨_, isI_of hi⟩
    rw [isN_i] at h
    by_cases h0 : 0 ≤ i
    · have h1 : ¬ i ≤ 60 := by intro q; rw [decide_eq_true h0, decide_eq_true q] at h; cases h
      push_cast [e0, e1, hi, Bool.not_false, Bool.not_true, ok_many, h0, h1, decide_true, decide_false]
      rfl
    · push_cast [e0, e1, hi, Bool.not_false, Bool.not_true, ok_many, h0, decide_false]
      rfl
/-! ### the law's trees -/
theorem c00 : List.contains [0] 0 = true := rfl
theorem c01 : List.contains [0] 1 = false := rfl
theorem c02 : List.contains [0] 2 = false := rfl
theorem v__law_tree {ns : List Int} : ∀ (k d : Nat) (l : List D), d < k → d ≤ 12 → St ns l → ∃ t l', St ns l' ∧ Tr.dep t ≤ d ∧ t.lv (10 ^ 30) ∧ recM r__law_tree k [.own l, .d (.int d), .d (.bool false)] = .ret (.d t.d) [some (.own l')] := by
  intro k
  induction k with
  | zero => intro d l h; omega
  | succ k ih =>
    intro d l h h12 st
    rw [u__law_tree]
    unfold b__law_tree
    have leaf : ∀ l, St ns l → ∃ (i v : Int) (l1 l2 : List D), St ns l2 ∧ -(10 ^ 30) ≤ i ∧ i ≤ 10 ^ 30 ∧ m__law_draw [.own l, .d (.int 100)] = .ret (.d (.int v)) [some (.own l1)] ∧ m__law_pick [.own l1, .d (.list [.int 0, .int 1, .int (-5), .int (10 ^ 30), .int v])] = .ret (.d (.int i)) [some (.own l2)] := by
      intro l st
      obtain ⟨v, l1, st1, v0, v1, e1⟩ := v_draw st (many := 100) (by omega) (by omega)
      obtain ⟨x, l2, st2, hx, e2⟩ := v_pick st1 (some_ := [.int 0, .int 1, .int (-5), .int (10 ^ 30), .int v]) (by simp) (by simp)
      simp only [List.mem_cons, List.not_mem_nil, or_false] at hx
      rcases hx with rfl | rfl | rfl | rfl | rfl <;> exact ⟨_, v, l1, l2, st2, by omega, by omega, e1, e2⟩
    by_cases hd : d = 0
    · subst hd
      obtain ⟨i, v, l1, l2, st2, i1, i2, e1, e2⟩ := leaf l st
      refine ⟨.leaf i, l2, st2, Nat.le_refl _, ⟨i1, i2⟩, ?_⟩
      have : decide (((0 : Nat) : Int) = 0) = true := rfl
      push_cast [this, c00, c01, c02, e1, gp30, e2]
      rfl
    · have hd0 : decide ((d : Int) = 0) = false := decide_eq_false (by omega)
      obtain ⟨u, l1, st1, u0, u1, e0⟩ := v_draw st (many := 4) (by omega) (by omega)
      by_cases hu : u = 0
      · obtain ⟨i, v, l2, l3, st3, i1, i2, e1, e2⟩ := leaf l1 st1
        refine ⟨.leaf i, l3, st3, Nat.zero_le _, ⟨i1, i2⟩, ?_⟩
        push_cast [hd0, Bool.not_false, e0, hu, decide_true, c00, c01, c02, e1, gp30, e2]
        rfl
      · have hu' : decide (u = 0) = false := decide_eq_false hu
        obtain ⟨v, l2, st2, v0, v1, e1⟩ := v_draw st1 (many := d) (by omega) (by omega)
        obtain ⟨x, l3, st3, hx, e2⟩ := v_pick st2 (some_ := [.int ((d : Int) - 1), .int ((d : Int) - 1), .int 0, .int v]) (by simp) (by simp)
        obtain ⟨w, rfl, hw⟩ : ∃ w : Nat, x = .int w ∧ w < d := by
          simp only [List.mem_cons, List.not_mem_nil, or_false] at hx
          rcases hx with rfl | rfl | rfl | rfl
          · exact ⟨d - 1, by congr 1; omega, by omega⟩
          · exact ⟨d - 1, by congr 1; omega, by omega⟩
          · exact ⟨0, rfl, by omega⟩
          · exact ⟨v.toNat, by congr 1; omega, by omega⟩
        obtain ⟨a, l4, st4, ha, la, e3⟩ := ih (d - 1) l3 (by omega) (by omega) st3
        obtain ⟨b, l5, st5, hb, lb, e4⟩ := ih w l4 (by omega) (by omega) st4
        obtain ⟨q, l6, st6, q0, q1, e5⟩ := v_draw st5 (many := 2) (by omega) (by omega)
        have ed : (d : Int) - 1 = ((d - 1 : Nat) : Int) := by omega
        rw [ed] at e2
        by_cases hq : q = 0
        · refine ⟨.node a b, l6, st6, by rw [Tr.dep]; omega, ⟨la, lb⟩, ?_⟩
          push_cast [hd0, Bool.not_false, e0, hu', c00, c01, c02, e1, ed, e2, e3, e4, e5, hq, decide_true]
          rfl
        · refine ⟨.node b a, l6, st6, by rw [Tr.dep]; omega, ⟨lb, la⟩, ?_⟩
          have hq' : decide (q = 0) = false := decide_eq_false hq
          push_cast [hd0, Bool.not_false, e0, hu', c00, c01, c02, e1, ed, e2, e3, e4, e5, hq']
          rfl
/-! ### spoilt values -/
def odd1 : List D := [.none, .bool true, .str "load", .str "join", .int (-1), .int 0, .int 1, .int 2, .int 61, .tuple [], .tuple [.str "load", .int 0, .int 1], .tuple [.str "join", .int 0, .int 0, .int 0], .tuple [.str "join", .int 0, .int 0, .int 1]]
def odd2 : List D := [.tuple [.str "load", .int 0, .none], .tuple [.str "load", .int 0], .tuple [.int 0, .int 0, .int 0], .tuple [.str "load", .int 9, .int 5], .tuple [.str "load", .int 0, .bool true]]
theorem odd_gv {x : D} (h : x ∈ odd1 ++ odd2) : GV 1 400 61 x := by
  have so1 : PyData.strOk "load" = true := by decide +kernel
  have so2 : PyData.strOk "join" = true := by decide +kernel
  have sl1 : Str.length "load" = 4 := by decide
  have sl2 : Str.length "join" = 4 := by decide
  simp only [odd1, odd2, List.cons_append, List.nil_append, List.mem_cons, List.not_mem_nil, or_false] at h
  rcases h with rfl | rfl | rfl | rfl | rfl | rfl | rfl | rfl | rfl | rfl | rfl | rfl | rfl | rfl | rfl | rfl | rfl | rfl <;> refine ⟨?_, ?_, ?_⟩ <;> simp [lay, lays, bd, bds, rsz, rszs, so1, so2, sl1, sl2]
theorem v__law_odd {ns : List Int} {l : List D} (st : St ns l) : ∃ y l', St ns l' ∧ GV 1 400 61 y ∧ m__law_odd [.own l] = .ret (.d y) [some (.own l')] := by
  obtain ⟨y, l', st', hy, e⟩ := v_pick st (some_ := odd1 ++ odd2) (by simp [odd1]) (by simp [odd1, odd2])
  have ga := gadd_l (l := odd1) (m := odd2) (by simp [odd1, odd2])
  refine ⟨y, l', st', odd_gv hy, ?_⟩
  rw [u__law_odd]
  unfold b__law_odd
  simp only [odd1, odd2, List.cons_append, List.nil_append] at ga e
  push_cast [ga, e, c00, c01]
theorem rszs_split {l : List D} {a : Nat} (h : a < l.length) : rszs l = rszs (l.take a) + (rsz l[a] + 2) + rszs (l.drop (a + 1)) := by
  have e : l = l.take a ++ l[a] :: l.drop (a + 1) := by rw [List.getElem_cons_drop, List.take_append_drop]
  have := congrArg rszs e
  rw [rszs_app, rszs] at this
  omega
theorem sp_mem {P : D → Prop} {l : List D} {a : Nat} {y : D} (h : ∀ x ∈ l, P x) (hy : P y) : ∀ x ∈ l.take a ++ [y] ++ l.drop (a + 1), P x := by
  intro x hx
  simp only [List.mem_append, List.mem_cons, List.not_mem_nil, or_false] at hx
  rcases hx with (hx | rfl) | hx
  · exact h x (List.mem_of_mem_take hx)
  · exact hy
  · exact h x (List.mem_of_mem_drop hx)
theorem v__law_spoilt {ns : List Int} : ∀ (k n : Nat) (M : Int) (x : D) (l0 : List D), n < k → 61 ≤ M → lay n x = true → bd M x = true → rsz x ≤ 4000000 → St ns l0 →
    ∃ y l', St ns l' ∧ GV (n + 1) (2 * rsz x + 400) (M + 1) y ∧ recM r__law_spoilt k [.own l0, .d x] = .ret (.d y) [some (.own l')] := by
  intro k
  induction k with
  | zero => intro n M x l0 h; omega
  | succ k ih =>
    intro n M x l0 hk hM hl hb hs st
    rw [u__law_spoilt]
    unfold b__law_spoilt
    have ew := v__law_whole (lay_ndt hl)
    have up : ∀ y, GV 1 400 61 y → GV (n + 1) (2 * rsz x + 400) (M + 1) y := fun y h => gv_up (by omega) (by omega) (by omega) h
    by_cases ht : ∃ l, x = .tuple l
    · obtain ⟨l, rfl⟩ := ht
      have hi : isI (.tuple l) = false := rfl
      rw [hi] at ew
      by_cases hl0 : l = []
      · subst hl0
        obtain ⟨y, l1, st1, hy, e1⟩ := v__law_odd st
        refine ⟨y, l1, st1, up y hy, ?_⟩
        push_cast [isT_t, Bool.not_true, Bool.not_false, ew, c00, c01, e1]
      have hle : l.isEmpty = false := by simpa using hl0
      have hlp := List.length_pos_iff.2 hl0
      obtain ⟨u, l1, st1, u0, u1, e1⟩ := v_draw st (many := 8) (by omega) (by omega)
      by_cases hu : u = 0
      · obtain ⟨y, l2, st2, hy, e2⟩ := v__law_odd st1
        refine ⟨y, l2, st2, up y hy, ?_⟩
        push_cast [isT_t, Bool.not_true, Bool.not_false, ew, hle, c00, c01, e1, hu, decide_true, e2]
      have hu' : decide (u = 0) = false := decide_eq_false hu
      obtain ⟨n, rfl, hll⟩ := lay_t hl
      have hbb : ∀ x ∈ l, bd M x = true := by simp only [bd] at hb; exact bds_iff.mp hb
      have hll' := fun x hx => lays_mem hll x hx
      have er : rsz (.tuple l) = rszs l + 3 := by simp only [rsz]
      rw [er] at hs up ⊢
      have hlen := rszs_len (l := l)
      obtain ⟨a, l2, st2, a0, a1, e2⟩ := v_draw st1 (many := l.length) (by omega) (by omega)
      obtain ⟨a, rfl⟩ := Int.eq_ofNat_of_zero_le a0
      have ha : a < l.length := by omega
      have hsp := rszs_split ha
      obtain ⟨ye, l3, st3, hye, e3⟩ := ih n M l[a] l2 (by omega) hM (hll' _ (List.getElem_mem ha)) (hbb _ (List.getElem_mem ha)) (by omega) st2
      obtain ⟨yo, l4, st4, hyo, e4⟩ := v__law_odd st3
      have ea : (a : Int) + 1 = ((a + 1 : Nat) : Int) := by omega
      have k1 := cut_to (l := l) (i := a) (by omega)
      have k2 := cut_from (l := l) (i := a + 1) (by omega)
      have k3 := cut_mid (l := l) (i := a) (j := a + 1) (by omega) (by omega)
      have ax : atI l (a : Int) = some l[a] := by rw [at_n, List.getElem?_eq_getElem ha]
      have g1 := gadd_t (l := l.take a) (m := [ye]) (by rw [List.length_take]; simp only [List.length_cons, List.length_nil]; omega)
      have g2 := gadd_t (l := l.take a ++ [ye]) (m := l.drop (a + 1)) (by rw [List.length_append, List.length_take, List.length_drop]; simp only [List.length_cons, List.length_nil]; omega)
      have g3 := gadd_t (l := l.take a) (m := l.drop (a + 1)) (by rw [List.length_take, List.length_drop]; omega)
      have g4 := gadd_t (l := l) (m := (l.drop a).take (a + 1 - a)) (by rw [List.length_take, List.length_drop]; omega)
      have g5 := gadd_t (l := l.take a) (m := [yo]) (by rw [List.length_take]; simp only [List.length_cons, List.length_nil]; omega)
      have g6 := gadd_t (l := l.take a ++ [yo]) (m := l.drop (a + 1)) (by rw [List.length_append, List.length_take, List.length_drop]; simp only [List.length_cons, List.length_nil]; omega)
      obtain ⟨y, l5, st5, hy, e5⟩ := v_pick st4 (some_ := [.tuple (l.take a ++ l.drop (a + 1)), .tuple (l ++ (l.drop a).take (a + 1 - a)), .tuple l.reverse, .tuple (l.take a ++ [yo] ++ l.drop (a + 1)), .tuple (l.take a ++ [ye] ++ l.drop (a + 1)), .tuple (l.take a ++ [ye] ++ l.drop (a + 1)), .tuple (l.take a ++ [ye] ++ l.drop (a + 1)), .tuple (l.take a ++ [ye] ++ l.drop (a + 1))]) (by simp) (by simp)
      have old : ∀ x ∈ l, lay (n + 1) x = true ∧ bd (M + 1) x = true := fun x hx => ⟨lay_up (by omega) (hll' x hx), bd_up (by omega) (hbb x hx)⟩
      have ge : GV (n + 1 + 1) (2 * (rszs l + 3) + 400) (M + 1) (.tuple (l.take a ++ [ye] ++ l.drop (a + 1))) := by
        rw [gv_t]
        refine ⟨sp_mem old ⟨hye.1, hye.2.1⟩, ?_⟩
        have := hye.2.2
        rw [rszs_app, rszs_app, rszs, rszs]
        omega
      refine ⟨y, l5, st5, ?_, ?_⟩
      · simp only [List.mem_cons, List.not_mem_nil, or_false] at hy
        rcases hy with rfl | rfl | rfl | rfl | rfl | rfl | rfl | rfl
        · rw [gv_t]
          refine ⟨fun x hx => old x ?_, by rw [rszs_app]; omega⟩
          rcases List.mem_append.mp hx with hx | hx
          · exact List.mem_of_mem_take hx
          · exact List.mem_of_mem_drop hx
        · rw [gv_t]
          refine ⟨fun x hx => old x ?_, ?_⟩
          · rcases List.mem_append.mp hx with hx | hx
            · exact hx
            · exact List.mem_of_mem_drop (List.mem_of_mem_take hx)
          · have e1 : (l.drop a).take (a + 1 - a) = [l[a]] := by
              rw [show a + 1 - a = 1 by omega, List.drop_eq_getElem_cons ha]
              rfl
            rw [rszs_app, e1, rszs, rszs]
            omega
        · rw [gv_t]
          exact ⟨fun x hx => old x (List.mem_reverse.mp hx), by rw [rszs_rev]; omega⟩
        · rw [gv_t]
          refine ⟨sp_mem old ⟨lay_up (by omega) hyo.1, bd_up (by omega) hyo.2.1⟩, ?_⟩
          have := hyo.2.2
          rw [rszs_app, rszs_app, rszs, rszs]
          omega
        · exact ge
        · exact ge
        · exact ge
        · exact ge
      · push_cast [isT_t, Bool.not_true, Bool.not_false, ew, hle, c00, c01, e1, hu', e2, ax, e3, gsl_t, k1, k2, k3, ea, g1, g2, g3, g4, e4, g5, g6, e5]
    · have t3 := isT_n (lay_ndt hl) (fun l e => ht ⟨l, e⟩)
      cases hi : isI x with
      | true =>
        obtain ⟨i, rfl⟩ : ∃ i, x = .int i := ⟨_, isI_of hi⟩
        obtain ⟨u, l1, st1, u0, u1, e1⟩ := v_draw st (many := 2) (by omega) (by omega)
        by_cases hu : u = 0
        · obtain ⟨q, l2, st2, hq, e2⟩ := v_pick st1 (some_ := [.int 1, .int (-1)]) (by simp) (by simp)
          obtain ⟨j, rfl, j1, j2⟩ : ∃ j, q = .int j ∧ -1 ≤ j ∧ j ≤ 1 := by
            simp only [List.mem_cons, List.not_mem_nil, or_false] at hq
            rcases hq with rfl | rfl <;> exact ⟨_, rfl, by decide, by decide⟩
          simp only [bd, Bool.and_eq_true, decide_eq_true_eq] at hb
          refine ⟨.int (i + j), l2, st2, gv_up (by omega) (by simp only [rsz]; omega) (Int.le_refl _) (gv_i (by omega) (by omega)), ?_⟩
          push_cast [t3, Bool.not_false, ew, hi, e1, hu, decide_true, c00, c01, e2]
        · obtain ⟨y, l2, st2, hy, e2⟩ := v__law_odd st1
          refine ⟨y, l2, st2, up y hy, ?_⟩
          push_cast [t3, Bool.not_false, ew, hi, e1, hu, decide_false, c00, c01, e2]
      | false =>
        obtain ⟨y, l2, st2, hy, e2⟩ := v__law_odd st
        refine ⟨y, l2, st2, up y hy, ?_⟩
        push_cast [t3, Bool.not_false, ew, hi, c00, c01, e2]
/-! ### what is refused -/
def spine : Nat → Tr → Prop
  | 0, t => t = .leaf 1
  | n + 1, t => ∃ s, spine n s ∧ (t = .node s (.leaf 2) ∨ t = .node (.leaf 2) s)
theorem spine_ok : ∀ (n : Nat) (t : Tr), spine n t → t.dep = n ∧ t.need ≤ 2 ∧ t.lv 12
  | 0, t, h => by
    rw [spine] at h; subst h
    exact ⟨rfl, by decide, by constructor <;> decide⟩
  | n + 1, t, h => by
    obtain ⟨s, hs, h⟩ := h
    obtain ⟨h1, h2, h3⟩ := spine_ok n s hs
    have h4 := need_pos s
    have h5 : (Tr.leaf 2).lv 12 := by constructor <;> decide
    have h6 : (Tr.leaf 2).need = 1 := rfl
    have h7 : (Tr.leaf 2).dep = 0 := rfl
    rcases h with rfl | rfl
    · refine ⟨by rw [Tr.dep, h7]; omega, ?_, h3, h5⟩
      rw [Tr.need, h6]; split <;> omega
    · refine ⟨by rw [Tr.dep, h7]; omega, ?_, h5, h3⟩
      rw [Tr.need, h6]; split <;> omega
theorem lp_deep {ns : List Int} {tr : Option T} : ∀ (n : Nat) (k0 : Nat) (t : Tr) (l : List D) (x3 : Option T), spine k0 t → St ns l → ∃ t' l' x3', spine (k0 + n) t' ∧ St ns l' ∧ forL (.nm 3) f1__law_refused (rngD (k0 : Int) n) [some (.own l), tr, some (.d t.d), x3, none, none, none, none, none, none] = .nx [some (.own l'), tr, some (.d t'.d), x3', none, none, none, none, none, none]
  | 0, k0, t, l, x3, h, st => ⟨t, l, x3, h, st, rfl⟩
  | n + 1, k0, t, l, x3, h, st => by
    obtain ⟨u, l1, st1, u0, u1, e1⟩ := v_draw st (many := 2) (by omega) (by omega)
    rw [rngD_S, fL_S, aT_n, fL1_s]
    have ek : (k0 : Int) + 1 = ((k0 + 1 : Nat) : Int) := by omega
    rw [ek]
    by_cases hu : u = 0
    · have eb : f1__law_refused [some (.own l), tr, some (.d t.d), some (.d (.int k0)), none, none, none, none, none, none] = .nx [some (.own l1), tr, some (.d (Tr.node t (.leaf 2)).d), some (.d (.int k0)), none, none, none, none, none, none] := by
        unfold f1__law_refused
        push_cast [c00, c01, e1, hu, decide_true]
        rfl
      obtain ⟨t', l', x3', h', st', e⟩ := lp_deep n (k0 + 1) (.node t (.leaf 2)) l1 (some (.d (.int k0))) ⟨t, h, .inl rfl⟩ st1
      refine ⟨t', l', x3', by rw [show k0 + (n + 1) = k0 + 1 + n by omega]; exact h', st', ?_⟩
      show fL2 _ _ _ (f1__law_refused [some (.own l), tr, some (.d t.d), some (.d (.int k0)), none, none, none, none, none, none]) = _
      rw [eb, fL2_n, e]
    · have eb : f1__law_refused [some (.own l), tr, some (.d t.d), some (.d (.int k0)), none, none, none, none, none, none] = .nx [some (.own l1), tr, some (.d (Tr.node (.leaf 2) t).d), some (.d (.int k0)), none, none, none, none, none, none] := by
        unfold f1__law_refused
        push_cast [c00, c01, e1, hu, decide_false]
        rfl
      obtain ⟨t', l', x3', h', st', e⟩ := lp_deep n (k0 + 1) (.node (.leaf 2) t) l1 (some (.d (.int k0))) ⟨t, h, .inr rfl⟩ st1
      refine ⟨t', l', x3', by rw [show k0 + (n + 1) = k0 + 1 + n by omega]; exact h', st', ?_⟩
      show fL2 _ _ _ (f1__law_refused [some (.own l), tr, some (.d t.d), some (.d (.int k0)), none, none, none, none, none, none]) = _
      rw [eb, fL2_n, e]
theorem aw_tree : aw "tree" = "argument tree" := by decide
theorem aw_many : aw "many" = "argument many" := by decide
theorem aw_deeds : aw "deeds" = "argument deeds" := by decide
theorem pw_deeds : pw "deeds" = "paper deeds" := by decide
theorem pw_tree : pw "tree" = "paper tree" := by decide
theorem pw_numbers : pw "numbers" = "paper numbers" := by decide
theorem ask_tree : askR (AE "tree") = .ret (.d (.str "argument tree")) [] := by rw [askR_AE (by decide), aw_tree]
theorem ask_many : askR (AE "many") = .ret (.d (.str "argument many")) [] := by rw [askR_AE (by decide), aw_many]
theorem ask_deeds : askR (AE "deeds") = .ret (.d (.str "argument deeds")) [] := by rw [askR_AE (by decide), aw_deeds]
theorem ask_pd : askR (PE "deeds") = .ret (.d (.str "paper deeds")) [] := by rw [askR_PE (by decide), pw_deeds]
theorem ask_pt : askR (PE "tree") = .ret (.d (.str "paper tree")) [] := by rw [askR_PE (by decide), pw_tree]
theorem ask_pn : askR (PE "numbers") = .ret (.d (.str "paper numbers")) [] := by rw [askR_PE (by decide), pw_numbers]
theorem gne_same {x : D} (h : lay 64 x = true) : gNe x x = some (.bool false) := by rw [gNe_lay h h, eqv_refl x 64 h]; rfl
theorem geq_same {x : D} (h : lay 64 x = true) : gEq x x = some (.bool true) := by rw [gEq_lay h h, eqv_refl x 64 h]
theorem one_tree : (List.replicate 5 [PyData.str "argument tree"]).flatten = [.str "argument tree", .str "argument tree", .str "argument tree", .str "argument tree", .str "argument tree"] := rfl
def rfE (l : List D) (tr x2 : D) (x3 x4 x5 x6 x7 x8 x9 : Option T) : Dl.Env := [some (.own l), some (.d tr), some (.d x2), x3, x4, x5, x6, x7, x8, x9]
theorem badT {t : Tr} (h : 12 < t.dep) (h2 : t.dep ≤ 20) {x : D} (hx : x ∈ [PyData.none, .bool true, .tuple [.int 1], .tuple [.int 1, .int 2, .int 3], .tuple [.int 1, .none], .str "1", .tuple [.int 1, .tuple [.int 2, .bool true]], t.d, .tuple []]) : lay 63 x = true ∧ isTr 12 x = false := by
  have so : PyData.strOk "1" = true := by decide +kernel
  simp only [List.mem_cons, List.not_mem_nil, or_false] at hx
  rcases hx with rfl | rfl | rfl | rfl | rfl | rfl | rfl | rfl | rfl
  · exact ⟨rfl, rfl⟩
  · exact ⟨rfl, rfl⟩
  · exact ⟨rfl, rfl⟩
  · exact ⟨rfl, rfl⟩
  · exact ⟨rfl, rfl⟩
  · exact ⟨by simp only [lay]; exact so, rfl⟩
  · exact ⟨rfl, rfl⟩
  · exact ⟨lay_up (by omega) (tr_lay t), by rw [isTr_d]; exact decide_eq_false (by omega)⟩
  · exact ⟨rfl, rfl⟩
theorem v__law_refused {ns : List Int} {l : List D} (st : St ns l) {t : Tr} (ht : t.dep ≤ 12) : ∃ l', St ns l' ∧ m__law_refused [.own l, .d t.d] = .ret (.d (.bool true)) [some (.own l')] := by
  obtain ⟨s, l1, x3, hs, st1, e1⟩ := lp_deep (tr := some (.d t.d)) 13 0 (.leaf 1) l none rfl st
  rw [Nat.zero_add] at hs
  obtain ⟨s1, hs1, hs2⟩ := hs
  obtain ⟨d12, n2, lv1⟩ := spine_ok 12 s1 hs1
  obtain ⟨d13, _, _⟩ := spine_ok 13 s ⟨s1, hs1, hs2⟩
  obtain ⟨bad, l2, st2, hb, e2⟩ := v_pick st1 (some_ := [.none, .bool true, .tuple [.int 1], .tuple [.int 1, .int 2, .int 3], .tuple [.int 1, .none], .str "1", .tuple [.int 1, .tuple [.int 2, .bool true]], s.d, .tuple []]) (by simp) (by simp)
  obtain ⟨many, l3, st3, hm, e3⟩ := v_pick st2 (some_ := [.int (-1), .int 61, .bool true, .none]) (by simp) (by simp)
  obtain ⟨bl, bt⟩ := badT (by omega) (by omega) hb
  have hmany : ndt many = true ∧ isN many 0 60 = false := by
    simp only [List.mem_cons, List.not_mem_nil, or_false] at hm
    rcases hm with rfl | rfl | rfl | rfl <;> exact ⟨rfl, by decide⟩
  have i1 := fun δ => iR_s (j := 13) (δ := δ) (by omega) (by omega)
  have e13 : Int.toNat 13 = 13 := rfl
  have e1' : forL (.nm 3) f1__law_refused (rngD 0 13) [some (.own l), some (.d t.d), some (.d (.int 1)), none, none, none, none, none, none, none] = _ := e1
  -- the inner tree
  have s2 : asgS 4 (ifE (truE (op1 (isT "tuple") (op2 gIx (var 2) (cst (.int 0))))) (op2 gIx (var 2) (cst (.int 0))) (op2 gIx (var 2) (cst (.int 1)))) [some (.own l1), some (.d t.d), some (.d s.d), x3, none, none, none, none, none, none] = .nx [some (.own l1), some (.d t.d), some (.d s.d), x3, some (.d s1.d), none, none, none, none, none] := by
    obtain ⟨a, b, rfl⟩ : ∃ a b, s1 = .node a b := by
      cases s1 with
      | leaf i => rw [Tr.dep] at d12; omega
      | node a b => exact ⟨a, b, rfl⟩
    rcases hs2 with rfl | rfl
    · have : isT "tuple" (Tr.node a b).d = some (.bool true) := rfl
      have en : (Tr.node (.node a b) (.leaf 2)).d = .tuple [(Tr.node a b).d, (Tr.leaf 2).d] := rfl
      rw [en]
      push_cast [this]
    · have : isT "tuple" (Tr.leaf 2).d = some (.bool false) := rfl
      have en : (Tr.node (.leaf 2) (.node a b)).d = .tuple [(Tr.leaf 2).d, (Tr.node a b).d] := rfl
      rw [en]
      push_cast [this]
  have q1 : m__law_asked [.d (fnD "needed"), .d (.list [bad])] = .ret (.d (.str "argument tree")) [] := by rw [asked_1 tab_needed, bad_needed bl bt, ask_tree]
  have q2 : m__law_asked [.d (fnD "deeds_for"), .d (.list [bad])] = .ret (.d (.str "argument tree")) [] := by rw [asked_1 tab_deeds_for, bad_deeds bl bt, ask_tree]
  have q3 : m__law_asked [.d (fnD "numbered"), .d (.list [bad])] = .ret (.d (.str "argument tree")) [] := by rw [asked_1 tab_numbered, bad_numbered bl bt, ask_tree]
  have q4 : m__law_asked [.d (fnD "accept_deeds"), .d (.list [bad, many, .none])] = .ret (.d (.str "argument tree")) [] := by rw [asked_3 tab_accept_deeds, bad_accD bl bt, ask_tree]
  have q5 : m__law_asked [.d (fnD "accept_numbers"), .d (.list [bad, .none])] = .ret (.d (.str "argument tree")) [] := by rw [asked_2 tab_accept_numbers, bad_accN bl bt, ask_tree]
  have q6 : m__law_asked [.d (fnD "accept_deeds"), .d (.list [t.d, many, .none])] = .ret (.d (.str "argument many")) [] := by rw [asked_3 tab_accept_deeds, bad_manyD ht hmany.1 hmany.2, ask_many]
  have q7 : m__law_asked [.d (fnD "run_deeds"), .d (.list [many, .none])] = .ret (.d (.str "argument many")) [] := by rw [asked_2 tab_run_deeds, bad_many hmany.1 hmany.2, ask_many]
  have so1 : PyData.strOk "argument tree" = true := by decide +kernel
  have so2 : PyData.strOk "argument many" = true := by decide +kernel
  have so3 : PyData.strOk "argument deeds" = true := by decide +kernel
  have gm : gMul (.list [.str "argument tree"]) (.int 5) = some (.list [.str "argument tree", .str "argument tree", .str "argument tree", .str "argument tree", .str "argument tree"]) := by
    have := gmul_repL (l := [PyData.str "argument tree"]) (n := 5) (by simp) (by omega)
    rw [one_tree] at this
    exact this
  have n1 := gne_same (x := .list [.str "argument tree", .str "argument tree", .str "argument tree", .str "argument tree", .str "argument tree"]) (by simp [lay, lays, so1])
  have n2' := gne_same (x := .str "argument many") (by simp only [lay]; exact so2)
  have ed : m__law_deeds [.d s1.d, .d (.int 0)] = .ret (.d (.tuple (ldeeds s1 0))) [] := v__law_deeds 20 s1 0 (by omega) (by omega)
  have gd := ldeeds_gvt (t := s1) (by omega) lv1 (Int.le_refl _)
  have hlen : (ldeeds s1 0).length ≤ 8191 := by
    have := ldeeds_len s1 0
    rw [d12] at this
    omega
  obtain ⟨R, er, lR, r0, _⟩ := run_ldeeds (m := 13) s1 0 (List.replicate 13 none) (by simp) (by omega) (by omega)
  have ru : runs 13 (.tuple (ldeeds s1 0)) = some R := er
  have q8 : m__law_asked [.d (fnD "accept_deeds"), .d (.list [s1.d, .int 13, .tuple (ldeeds s1 0)])] = .ret (.d (.list [.none])) [] := by
    have := v_accept_deeds (t := s1) (by omega) (m := 13) (by omega) (lay_up (m := 63) (by omega) gd.1) (by have := gd.2.2; omega)
    rw [ru] at this
    rw [asked_3 tab_accept_deeds]
    show askR (m_accept_deeds [.d s1.d, .d (.int ((13 : Nat) : Int)), .d (.tuple (ldeeds s1 0))]) = _
    rw [this]
    simp only [r0, if_true]
    exact askR_r
  have sm := v_same (x := .list [.none]) rfl (by rfl) (by decide) (by decide)
  have g1 := gadd_t (l := ldeeds s1 0) (m := [loadD 1 7]) (by simp only [List.length_cons, List.length_nil]; omega)
  have g2 := gadd_t (l := ldeeds s1 0 ++ [loadD 1 7]) (m := [joinD 0 0 1]) (by simp only [List.length_append, List.length_cons, List.length_nil]; omega)
  have ru2 : runs 13 (.tuple (ldeeds s1 0 ++ [loadD 1 7])) = some (R.set 1 (some (.leaf 7))) := by
    show runR 13 _ (ldeeds s1 0 ++ [loadD 1 7]) = _
    rw [runR_app, er, Option.bind_some, runR, stp_load (by omega)]
    rfl
  have ru3 : runs 13 (.tuple (ldeeds s1 0 ++ [loadD 1 7] ++ [joinD 0 0 1])) = none := by
    show runR 13 _ (ldeeds s1 0 ++ [loadD 1 7] ++ [joinD 0 0 1]) = _
    rw [runR_app]
    have : runR 13 (List.replicate 13 none) (ldeeds s1 0 ++ [loadD 1 7]) = some (R.set 1 (some (.leaf 7))) := ru2
    rw [this, Option.bind_some, runR]
    have e : PyData.eqv (.str "join") (.str "join") = true := eqv_refl _ 64 (by decide +kernel)
    have : stp 13 (R.set 1 (some (.leaf 7))) (joinD 0 0 1) = none := by
      show (if (true && true && true && inR 13 (.int 0) && inR 13 (.int 0) && inR 13 (.int 1) && PyData.eqv (.str "join") (.str "join")) = true then jn (R.set 1 (some (.leaf 7))) 0 0 1 else none) = _
      rw [e]
      show jn (R.set 1 (some (.leaf 7))) 0 0 1 = _
      unfold jn
      have a0 : (R.set 1 (some (Tr.leaf 7)))[(0 : Int).toNat]? = some (some s1) := by
        show (R.set 1 (some (Tr.leaf 7)))[0]? = _
        rw [List.getElem?_set_ne (by omega)]; exact r0
      have a1 : (R.set 1 (some (Tr.leaf 7)))[(1 : Int).toNat]? = some (some (.leaf 7)) := by
        show (R.set 1 (some (Tr.leaf 7)))[1]? = _
        rw [List.getElem?_set_self (by omega)]
      rw [a0, a1]
      show (if _ then _ else _) = _
      rw [if_neg (by rw [d12]; omega)]
    rw [this]
    rfl
  have gl : GV 1 300 12 (loadD 1 7) := gv_load (by decide) (by decide) (by decide)
  have gj : GV 1 300 12 (joinD 0 0 1) := gv_join (by decide) (by decide) (by decide)
  rw [gv_t] at gd
  have gd2 : GV 2 2500000 12 (.tuple (ldeeds s1 0 ++ [loadD 1 7])) := by
    rw [gv_t]
    refine ⟨fun x hx => ?_, by rw [rszs_app, rszs, rszs]; have := gl.2.2; omega⟩
    simp only [List.mem_append, List.mem_cons, List.not_mem_nil, or_false] at hx
    rcases hx with hx | rfl
    · exact gd.1 x hx
    · exact ⟨gl.1, gl.2.1⟩
  have gd3 : GV 2 2600000 12 (.tuple (ldeeds s1 0 ++ [loadD 1 7] ++ [joinD 0 0 1])) := by
    rw [gv_t] at gd2 ⊢
    refine ⟨fun x hx => ?_, by rw [rszs_app, rszs, rszs]; have := gj.2.2; omega⟩
    simp only [List.mem_append, List.mem_cons, List.not_mem_nil, or_false] at hx
    rcases hx with hx | rfl
    · exact gd2.1 x (by simpa using hx)
    · exact ⟨gj.1, gj.2.1⟩
  have q9 : m__law_asked [.d (fnD "run_deeds"), .d (.list [.int 13, .tuple (ldeeds s1 0 ++ [loadD 1 7] ++ [joinD 0 0 1])])] = .ret (.d (.str "argument deeds")) [] := by
    have := v_run_deeds (m := 13) (by omega) (lay_up (m := 63) (by omega) gd3.1) (by have := gd3.2.2; omega)
    rw [ru3] at this
    rw [asked_2 tab_run_deeds]
    show askR (m_run_deeds [.d (.int ((13 : Nat) : Int)), _]) = _
    rw [this, ask_deeds]
  have q10 : m__law_asked [.d (fnD "run_deeds"), .d (.list [.int 13, .tuple (ldeeds s1 0 ++ [loadD 1 7])])] = .ret (.d (.list [.tuple ((R.set 1 (some (.leaf 7))).map rD)])) [] := by
    have := v_run_deeds (m := 13) (by omega) (lay_up (m := 63) (by omega) gd2.1) (by have := gd2.2.2; omega)
    rw [ru2] at this
    rw [asked_2 tab_run_deeds]
    show askR (m_run_deeds [.d (.int ((13 : Nat) : Int)), _]) = _
    rw [this]
    rfl
  have n3 := geq_same (x := .str "argument deeds") (by simp only [lay]; exact so3)
  have il : isT "list" (.list [.tuple ((R.set 1 (some (Tr.leaf 7))).map rD)]) = some (.bool true) := rfl
  have eL : loadD 1 7 = .tuple [.str "load", .int 1, .int 7] := rfl
  have eJ : joinD 0 0 1 = .tuple [.str "join", .int 0, .int 0, .int 1] := rfl
  rw [eL, eJ] at q9 g2
  rw [eL] at q10 g1
  refine ⟨l3, st3, ?_⟩
  rw [u__law_refused]
  unfold b__law_refused
  have s0 : asgS 2 (cst (.int 1)) [some (.own l), some (.d t.d), none, none, none, none, none, none, none, none] = .nx [some (.own l), some (.d t.d), some (.d (.int 1)), none, none, none, none, none, none, none] := by push_cast []
  have s1 : forS (.nm 3) (ixR1 (cst (.int 13))) f1__law_refused [some (.own l), some (.d t.d), some (.d (.int 1)), none, none, none, none, none, none, none] = .nx [some (.own l1), some (.d t.d), some (.d s.d), x3, none, none, none, none, none, none] := by push_cast [i1, e13, e1']
  rw [s_seq, s0, sq_nx, s_seq, s1, sq_nx, s_seq, s2, sq_nx]
  push_cast [c00, c01, e2, e3, q1, q2, q3, q4, q5, q6, q7, gm, n1, n2', List.map_cons, List.map_nil, ed, q8, sm, Bool.not_true, g1, g2, q9, n3, q10, il]
/-! ### the whole law -/
def lvs (M : Int) (R : List (Option Tr)) : Prop := ∀ t, some t ∈ R → t.lv M
theorem stp_lv {m : Nat} {M : Int} {R R' : List (Option Tr)} {x : D} (hx : bd M x = true) (hR : lvs M R) (e : stp m R x = some R') : lvs M R' := by
  have put : ∀ {k : Nat} {t : Tr}, t.lv M → lvs M (R.set k (some t)) := fun ht s hs => by
    rcases List.mem_or_eq_of_mem_set hs with h | h
    · exact hR s h
    · cases h; exact ht
  unfold stp at e
  split at e
  · split at e
    · cases e
      rename_i k a b hc
      simp only [Bool.and_eq_true] at hc
      obtain ⟨i, rfl⟩ : ∃ i, b = .int i := ⟨_, isI_of hc.1.1.2⟩
      simp only [bd, bds, Bool.and_eq_true, decide_eq_true_eq] at hx
      exact put hx.2.2.1
    · cases e
  · split at e
    · unfold jn at e
      split at e
      · split at e
        · cases e
          rename_i s t h1 h2 _
          exact put ⟨hR s (List.mem_of_getElem? h1), hR t (List.mem_of_getElem? h2)⟩
        · cases e
      · cases e
    · cases e
  · cases e
theorem runR_lv {m : Nat} {M : Int} : ∀ {q : List D} {R R' : List (Option Tr)}, (∀ x ∈ q, bd M x = true) → lvs M R → runR m R q = some R' → lvs M R'
  | [], R, R', _, hR, e => by cases e; exact hR
  | x :: q, R, R', hq, hR, e => by
    rw [runR] at e
    cases h : stp m R x with
    | none => rw [h] at e; cases e
    | some R1 =>
      rw [h, Option.bind_some] at e
      exact runR_lv (fun y hy => hq y (List.mem_cons_of_mem _ hy)) (stp_lv (hq x (List.mem_cons_self ..)) hR h) e
theorem runs_gv {m n B : Nat} (hm : m ≤ 60) {M : Int} {x : D} (h : GV n B M x) {R : List (Option Tr)} (hok : oks R) (hR : R.length = m) (e : runs m x = some R) : GV 13 13270743 M (.tuple (R.map rD)) := by
  have hl : lvs M R := by
    cases x with
    | tuple q =>
      refine runR_lv (R := List.replicate m none) ?_ (fun t ht => by cases List.eq_of_mem_replicate ht) e
      have := h.2.1
      simp only [bd] at this
      exact bds_iff.mp this
    | _ => cases e
  refine gv_up (Nat.le_refl _) (by omega) (Int.le_refl _) (gv_ti (k := 60) (n := 12) (B := 221177) (by rw [List.length_map]; omega) fun y hy => ?_)
  obtain ⟨o, ho, rfl⟩ := List.mem_map.mp hy
  cases o with
  | none => exact gv_up (Nat.zero_le _) (by omega) (Int.le_refl _) (gv_n (M := M))
  | some t => exact tr_gv (hok t ho) (hl t ho)
def tE (l : List D) (x2 : Option T) (t : Tr) (x6 x7 x8 x9 x10 : Option T) : Dl.Env := [none, some (.own l), x2, some (.d t.d), some (.d (.int t.need)), some (.d (.tuple (ldeeds t 0))), x6, x7, x8, x9, x10]
theorem f1_turn {ns : List Int} {l : List D} (st : St ns l) {t : Tr} (ht : t.dep ≤ 4) (hl : t.lv (10 ^ 30)) (k : Nat) {x2 x7 x8 x9 x10 : Option T} :
    ∃ l' x7' x8' x9' x10', St ns l' ∧ f1_law (tE l x2 t (some (.d (.int k))) x7 x8 x9 x10) = .nx (tE l' x2 t (some (.d (.int k))) x7' x8' x9' x10') := by
  have hn := need_pos t
  obtain ⟨mx, l1, st1, hm, e1⟩ := v_pick st (some_ := [.int t.need, .int t.need, .int t.need, .int ((t.need : Int) + 1), .int ((t.need : Int) - 1), .int 0, .int 60]) (by simp) (by simp)
  obtain ⟨m, rfl, hm60⟩ : ∃ m : Nat, mx = .int m ∧ m ≤ 60 := by
    simp only [List.mem_cons, List.not_mem_nil, or_false] at hm
    rcases hm with rfl | rfl | rfl | rfl | rfl | rfl | rfl
    · exact ⟨t.need, rfl, by omega⟩
    · exact ⟨t.need, rfl, by omega⟩
    · exact ⟨t.need, rfl, by omega⟩
    · exact ⟨t.need + 1, rfl, by omega⟩
    · exact ⟨t.need - 1, by congr 1; omega, by omega⟩
    · exact ⟨0, rfl, by omega⟩
    · exact ⟨60, rfl, by omega⟩
  have gd : GV 2 2474000 (10 ^ 30) (.tuple (ldeeds t 0)) := ldeeds_gvt (by omega) hl (by decide)
  have s0 : asgS 7 (ofN (callN [0] m__law_pick [var 1, lstE [var 4, var 4, var 4, op2 gAdd (var 4) (cst (.int 1)), op2 Dl.gSub (var 4) (cst (.int 1)), cst (.int 0), cst (.int 60)]])) (tE l x2 t (some (.d (.int k))) x7 x8 x9 x10) = .nx (tE l1 x2 t (some (.d (.int k))) (some (.d (.int m))) x8 x9 x10) := by
    unfold tE
    push_cast [c00, c01, e1]
  -- the deeds that are tried
  obtain ⟨x, l2, st2, gx, s1⟩ : ∃ x l2, St ns l2 ∧ GV 3 4948400 (10 ^ 30 + 1) x ∧ asgS 8 (ifE (op2 gEq (var 6) (cst (.int 0))) (var 5) (ofN (callN [0] m__law_spoilt [var 1, var 5]))) (tE l1 x2 t (some (.d (.int k))) (some (.d (.int m))) x8 x9 x10) = .nx (tE l2 x2 t (some (.d (.int k))) (some (.d (.int m))) (some (.d x)) x9 x10) := by
    by_cases hk : k = 0
    · subst hk
      refine ⟨_, l1, st1, gv_up (by omega) (by omega) (by omega) gd, ?_⟩
      unfold tE
      push_cast [show decide (((0 : Nat) : Int) = 0) = true from rfl]
    · have hk' : decide ((k : Int) = 0) = false := decide_eq_false (by omega)
      obtain ⟨y, l2, st2, gy, e2⟩ := v__law_spoilt 20 2 (10 ^ 30) (.tuple (ldeeds t 0)) l1 (by omega) (by decide) gd.1 gd.2.1 (by have := gd.2.2; omega) st1
      have e2' : m__law_spoilt [.own l1, .d (.tuple (ldeeds t 0))] = .ret (.d y) [some (.own l2)] := e2
      refine ⟨y, l2, st2, gv_up (Nat.le_refl _) (by have := gd.2.2; omega) (by omega) gy, ?_⟩
      unfold tE
      push_cast [hk', c00, c01, e2']
  have lx := lay_up (m := 63) (by omega) gx.1
  have sx : rsz x ≤ 16777216 := by have := gx.2.2; omega
  have a1 := v_accept_deeds (t := t) (by omega) hm60 lx sx
  have a2 := v__law_deeds_due (t := t) (by omega) hl (by decide) hm60 lx sx
  have a3 := v_run_deeds hm60 lx sx
  obtain ⟨a0, a4⟩ := v_run_of hm60 lx sx
  have so1 : PyData.strOk "paper deeds" = true := by decide +kernel
  have so2 : PyData.strOk "paper tree" = true := by decide +kernel
  have so3 : PyData.strOk "paper numbers" = true := by decide +kernel
  have so4 : PyData.strOk "argument deeds" = true := by decide +kernel
  have sl1 : Str.length "paper deeds" = 11 := by decide
  have sl2 : Str.length "paper tree" = 10 := by decide
  have sl3 : Str.length "paper numbers" = 13 := by decide
  have sl4 : Str.length "argument deeds" = 14 := by decide
  have sN := v_same (x := .list [.none]) rfl (by rfl) (by decide) (by decide)
  have sD := v_same (x := .str "paper deeds") rfl (by simp only [lay]; exact so1) (by simp only [rok]; exact so1) (by simp only [rsz, sl1]; omega)
  have sT := v_same (x := .str "paper tree") rfl (by simp only [lay]; exact so2) (by simp only [rok]; exact so2) (by simp only [rsz, sl2]; omega)
  have sU := v_same (x := .str "paper numbers") rfl (by simp only [lay]; exact so3) (by simp only [rok]; exact so3) (by simp only [rsz, sl3]; omega)
  have sA := v_same (x := .str "argument deeds") rfl (by simp only [lay]; exact so4) (by simp only [rok]; exact so4) (by simp only [rsz, sl4]; omega)
  have s2 : ifS (notT (truE (ofN (callN [] m__law_same [ofN (callN [] m__law_asked [cst (fnD "accept_deeds"), lstE [var 3, var 7, var 8]]), ofN (callN [] m__law_deeds_due [var 3, var 7, var 8])])))) (retS (cst (.bool false))) (nxS) (tE l2 x2 t (some (.d (.int k))) (some (.d (.int m))) (some (.d x)) x9 x10) = .nx (tE l2 x2 t (some (.d (.int k))) (some (.d (.int m))) (some (.d x)) x9 x10) := by
    have q : ∃ v, m__law_asked [.d (fnD "accept_deeds"), .d (.list [t.d, .int m, x])] = .ret (.d v) [] ∧ m__law_deeds_due [.d t.d, .d (.int m), .d x] = .ret (.d v) [] ∧ m__law_same [.d v, .d v] = .ret (.d (.bool true)) [] := by
      rw [asked_3 tab_accept_deeds, a1, a2]
      cases runs m x with
      | none => exact ⟨_, ask_pd, rfl, sD⟩
      | some R =>
        by_cases h : R[0]? = some (some t)
        · simp only [h, if_true]
          exact ⟨_, rfl, rfl, sN⟩
        · simp only [h, if_false]
          exact ⟨_, ask_pt, rfl, sT⟩
    obtain ⟨v, q1, q2, q3⟩ := q
    unfold tE
    push_cast [q1, q2, q3, Bool.not_true]
  obtain ⟨y, s3, s4⟩ : ∃ y, asgS 9 (ofN (callN [] m__law_done [var 7, var 8])) (tE l2 x2 t (some (.d (.int k))) (some (.d (.int m))) (some (.d x)) x9 x10) = .nx (tE l2 x2 t (some (.d (.int k))) (some (.d (.int m))) (some (.d x)) (some (.d y)) x10) ∧
      ifS (notT (truE (ofN (callN [] m__law_same [ofN (callN [] m__law_asked [cst (fnD "run_deeds"), lstE [var 7, var 8]]), ifE (op2 gIsN (var 9) (cst .none)) (cst (.str "argument deeds")) (lstE [var 9])])))) (retS (cst (.bool false))) (nxS) (tE l2 x2 t (some (.d (.int k))) (some (.d (.int m))) (some (.d x)) (some (.d y)) x10) = .nx (tE l2 x2 t (some (.d (.int k))) (some (.d (.int m))) (some (.d x)) (some (.d y)) x10) := by
    have q0 := asked_2 (a := .int m) (b := x) tab_run_deeds
    rw [a3] at q0
    cases hr : runs m x with
    | none =>
      rw [hr] at a4 q0
      have q0' := q0.trans ask_deeds
      refine ⟨.none, ?_, ?_⟩
      · unfold tE; push_cast [a4]
      · unfold tE; push_cast [q0', gisn, isno_n, sA, Bool.not_true]
    | some R =>
      rw [hr] at a4 q0 a0
      have g := runs_gv hm60 gx a0.2.2 a0.2.1 hr
      have g2 := gv_li (l := [.tuple (R.map rD)]) (k := 1) (by simp) (fun z hz => by rw [List.mem_singleton] at hz; rw [hz]; exact g)
      have sS := gv_same g2 (by omega) (by omega) (by decide)
      have q0' : m__law_asked [.d (fnD "run_deeds"), .d (.list [.int m, x])] = .ret (.d (.list [.tuple (R.map rD)])) [] := q0
      refine ⟨.tuple (R.map rD), ?_, ?_⟩
      · unfold tE; push_cast [a4]
      · unfold tE; push_cast [q0', gisn, isno_t, sS, Bool.not_true]
  have gn : GV 12 421832 13 t.nums := nums_gv (by omega)
  obtain ⟨p, l3, st3, gp, s5⟩ : ∃ p l3, St ns l3 ∧ GV 13 844064 62 p ∧ asgS 10 (ifE (op2 gEq (var 6) (cst (.int 0))) (ofN (callN [] m__law_numbers [var 3])) (ofN (callN [0] m__law_spoilt [var 1, ofN (callN [] m__law_numbers [var 3])]))) (tE l2 x2 t (some (.d (.int k))) (some (.d (.int m))) (some (.d x)) (some (.d y)) x10) = .nx (tE l3 x2 t (some (.d (.int k))) (some (.d (.int m))) (some (.d x)) (some (.d y)) (some (.d p))) := by
    have en : m__law_numbers [.d t.d] = .ret (.d t.nums) [] := v__law_numbers 20 t (by omega) (by omega)
    by_cases hk : k = 0
    · subst hk
      refine ⟨_, l2, st2, gv_up (by omega) (by omega) (by omega) gn, ?_⟩
      unfold tE
      push_cast [show decide (((0 : Nat) : Int) = 0) = true from rfl, en]
    · have hk' : decide ((k : Int) = 0) = false := decide_eq_false (by omega)
      obtain ⟨y, l3, st3, gy, e2⟩ := v__law_spoilt 20 12 61 t.nums l2 (by omega) (by omega) gn.1 (bd_up (by omega) gn.2.1) (by have := gn.2.2; omega) st2
      have e2' : m__law_spoilt [.own l2, .d t.nums] = .ret (.d y) [some (.own l3)] := e2
      refine ⟨y, l3, st3, gv_up (Nat.le_refl _) (by have := gn.2.2; omega) (by omega) gy, ?_⟩
      unfold tE
      push_cast [hk', c00, c01, en, e2']
  have b1 := v_accept_numbers (t := t) (by omega) (lay_up (m := 63) (by omega) gp.1)
  have b2 := v__law_are_numbers (t := t) (by omega) (gv_up (n := 13) (m := 63) (by omega) (Nat.le_refl _) (Int.le_refl _) gp) (by omega) (by decide) (by have := gn.2.2; omega) (bd_rok (by decide) gn.2.1)
  have s6 : ifS (notT (truE (ofN (callN [] m__law_same [ofN (callN [] m__law_asked [cst (fnD "accept_numbers"), lstE [var 3, var 10]]), ifE (truE (ofN (callN [] m__law_are_numbers [var 3, var 10]))) (lstE [cst .none]) (cst (.str "paper numbers"))])))) (retS (cst (.bool false))) (nxS) (tE l3 x2 t (some (.d (.int k))) (some (.d (.int m))) (some (.d x)) (some (.d y)) (some (.d p))) = .nx (tE l3 x2 t (some (.d (.int k))) (some (.d (.int m))) (some (.d x)) (some (.d y)) (some (.d p))) := by
    have q := asked_2 (a := t.d) (b := p) tab_accept_numbers
    rw [b1] at q
    unfold tE
    cases h : isNum t p with
    | true =>
      rw [h, if_pos rfl] at q
      have q' : m__law_asked [.d (fnD "accept_numbers"), .d (.list [t.d, p])] = .ret (.d (.list [.none])) [] := q
      push_cast [q', b2, h, sN, Bool.not_true]
    | false =>
      rw [h, if_neg (by simp)] at q
      have q' := q.trans ask_pn
      push_cast [q', b2, h, sU, Bool.not_true]
  refine ⟨l3, some (.d (.int m)), some (.d x), some (.d y), some (.d p), st3, ?_⟩
  · unfold f1_law
    rw [s_seq, s0, sq_nx, s_seq, s1, sq_nx, s_seq, s2, sq_nx, s_seq, s3, sq_nx, s_seq, s4, sq_nx, s_seq, s5, sq_nx, s6]
theorem f2_turn {ns : List Int} {l : List D} (st : St ns l) {x2 x3 x4 x5 x6 x7 x8 x9 x10 : Option T} :
    ∃ l' x3' x4' x5' x6' x7' x8' x9' x10', St ns l' ∧ f2_law [none, some (.own l), x2, x3, x4, x5, x6, x7, x8, x9, x10] = .nx [none, some (.own l'), x2, x3', x4', x5', x6', x7', x8', x9', x10'] := by
  obtain ⟨d, l1, st1, hd, e1⟩ := v_pick st (some_ := [.int 0, .int 1, .int 2, .int 4]) (by simp) (by simp)
  obtain ⟨d, rfl, hd4⟩ : ∃ m : Nat, d = .int m ∧ m ≤ 4 := by
    simp only [List.mem_cons, List.not_mem_nil, or_false] at hd
    rcases hd with rfl | rfl | rfl | rfl
    · exact ⟨0, rfl, by omega⟩
    · exact ⟨1, rfl, by omega⟩
    · exact ⟨2, rfl, by omega⟩
    · exact ⟨4, rfl, by omega⟩
  obtain ⟨t, l2, st2, ht, hl, e2⟩ := v__law_tree 20 d l1 (by omega) (by omega) st1
  have e2' : m__law_tree [.own l1, .d (.int d), .d (.bool false)] = .ret (.d t.d) [some (.own l2)] := e2
  have e3 : m__law_need [.d t.d] = .ret (.d (.int t.need)) [] := v__law_need 20 t (by omega)
  have e4 : m__law_deeds [.d t.d, .d (.int 0)] = .ret (.d (.tuple (ldeeds t 0))) [] := v__law_deeds 20 t 0 (by omega) (by omega)
  have s0 : asgS 3 (ofN (callN [0] m__law_tree [var 1, ofN (callN [0] m__law_pick [var 1, lstE [cst (.int 0), cst (.int 1), cst (.int 2), cst (.int 4)]]), cst (.bool false)])) [none, some (.own l), x2, x3, x4, x5, x6, x7, x8, x9, x10] = .nx [none, some (.own l2), x2, some (.d t.d), x4, x5, x6, x7, x8, x9, x10] := by
    push_cast [c00, c01, c02, e1, e2']
  have s1 : asgR [5, 4] (tupE [ofN (callN [] m__law_need [var 3]), ofN (callN [] m__law_deeds [var 3, cst (.int 0)])]) [none, some (.own l2), x2, some (.d t.d), x4, x5, x6, x7, x8, x9, x10] = .nx (tE l2 x2 t x6 x7 x8 x9 x10) := by
    unfold tE
    push_cast [e3, e4, List.map_cons, List.map_nil]
  obtain ⟨δ', el, l3, x6', x7', x8', x9', x10', st3, rfl⟩ := forR_inv (v := 6) (b := f1_law) (fun _ δ => ∃ l x6 x7 x8 x9 x10, St ns l ∧ δ = tE l x2 t x6 x7 x8 x9 x10) 8 0 0
    (fun k hk δ hi => by
      obtain ⟨l, x6, x7, x8, x9, x10, st, rfl⟩ := hi
      obtain ⟨l', x7', x8', x9', x10', st', e⟩ := f1_turn st (t := t) (by omega) hl k (x2 := x2) (x7 := x7) (x8 := x8) (x9 := x9) (x10 := x10)
      have e0 : (0 : Int) + (k : Int) = k := by omega
      refine ⟨_, .inl (?_ : _ = Out.nx (tE l' x2 t (some (.d (.int k))) x7' x8' x9' x10')), l', _, _, _, _, _, st', rfl⟩
      rw [e0]
      exact e) (tE l2 x2 t x6 x7 x8 x9 x10) ⟨l2, x6, x7, x8, x9, x10, st2, rfl⟩
  have i1 := fun δ => iR_s (j := 8) (δ := δ) (by omega) (by omega)
  have e8 : Int.toNat 8 = 8 := rfl
  have s2 : forS (.nm 6) (ixR1 (cst (.int 8))) f1_law (tE l2 x2 t x6 x7 x8 x9 x10) = .nx (tE l3 x2 t x6' x7' x8' x9' x10') := by
    push_cast [i1, e8, el]
  obtain ⟨l4, st4, er⟩ := v__law_refused st3 (t := t) (by omega)
  refine ⟨l4, some (.d t.d), some (.d (.int t.need)), some (.d (.tuple (ldeeds t 0))), x6', x7', x8', x9', x10', st4, ?_⟩
  unfold f2_law
  rw [s_seq, s0, sq_nx, s_seq, s1, sq_nx, s_seq, s2, sq_nx]
  unfold tE
  push_cast [c00, c01, er, Bool.not_true]
theorem plain : Dl.Plain 63 9 b_law := by
  intro ns hl seed h1 h2
  obtain ⟨δ', el, l1, x2, x3, x4, x5, x6, x7, x8, x9, x10, st1, rfl⟩ := forR_inv (v := 2) (b := f2_law) (fun _ δ => ∃ l x2 x3 x4 x5 x6 x7 x8 x9 x10, St ns l ∧ δ = [none, some (.own l), x2, x3, x4, x5, x6, x7, x8, x9, x10]) 3 0 0
    (fun k hk δ hi => by
      obtain ⟨l, x2, x3, x4, x5, x6, x7, x8, x9, x10, st, rfl⟩ := hi
      obtain ⟨l', x3', x4', x5', x6', x7', x8', x9', x10', st', e⟩ := f2_turn st (x2 := some (.d (.int (0 + (k : Int))))) (x3 := x3) (x4 := x4) (x5 := x5) (x6 := x6) (x7 := x7) (x8 := x8) (x9 := x9) (x10 := x10)
      exact ⟨_, .inl e, l', _, _, _, _, _, _, _, _, _, st', rfl⟩) (none :: some (.own (stD ns 0 0 seed)) :: List.replicate 9 none)
    ⟨_, none, none, none, none, none, none, none, none, none, ⟨0, 0, seed, rfl, by omega, by omega, by omega, h1⟩, rfl⟩
  have i1 := fun δ => iR_s (j := 3) (δ := δ) (by omega) (by omega)
  have e3 : Int.toNat 3 = 3 := rfl
  unfold b_law
  push_cast [i1, e3, el]
  exact ⟨_, rfl⟩
end Law

open PySem PySem.W PyProof.Rows Dl
set_option maxRecDepth 100000 in
set_option maxHeartbeats 0 in
theorem PySem.Challenge.cw_nowayleft_k40_papers_and_arguments_of_tr_holds : PySem.Challenge.rw_nowayleft_k40_papers_and_arguments_of_tr.Holds := by
  w_on; o_law; k_head; (case hw => w_witness2)
  k_fill
  refine Dl.top_walk (l := PySem.Challenge.rw_nowayleft_k40_papers_and_arguments_of_tr) (n := 63) (k := 49) (x := "script") rfl (by rw [sizeLine_eq]; decide) rfl ⟨rfl, by decide, by decide⟩ (fun w h Y => PySem.W.kIn_of Y) ?F
  case F =>
    intro w mg fa h KX G hmg
    refine' Law.all_mk KX G hmg Law.plain ?h_is_integer ?h_is_tree ?h_check_tree ?h_needed_of ?h_needed ?h_worked ?h_deeds_for ?h_run_of ?h_run_deeds ?h_accept_deeds ?h_numbers_of ?h_numbered ?h_are_numbers ?h_accept_numbers ?h__law_start ?h__law_draw ?h__law_pick ?h__law_same ?h__law_word ?h__law_asked ?h__law_tree ?h__law_need ?h__law_deeds ?h__law_numbers ?h__law_depth ?h__law_whole ?h__law_done ?h__law_are_numbers ?h__law_deeds_due ?h__law_odd ?h__law_spoilt ?h__law_refused ?h_law ?z_ValueError ?z_abs ?z_all ?z_bool ?z_int ?z_isinstance ?z_len ?z_list ?z_max ?z_range ?z_repr ?z_sorted ?z_str ?z_super ?z_tuple ?z_MAX_SPANS ?z_MAX_DEPTH ?oq ?tp ?h_HeapError ?h_ArgumentError ?h_PaperError ?h_TooMany ?p_HeapError_HeapError ?p_HeapError_ArgumentError ?p_HeapError_PaperError ?p_HeapError_TooMany ?p_ArgumentError_HeapError ?p_ArgumentError_ArgumentError ?p_ArgumentError_PaperError ?p_ArgumentError_TooMany ?p_PaperError_HeapError ?p_PaperError_ArgumentError ?p_PaperError_PaperError ?p_PaperError_TooMany ?p_TooMany_HeapError ?p_TooMany_ArgumentError ?p_TooMany_PaperError ?p_TooMany_TooMany
    (case h_is_integer => (refine' Dl.funIn ?a_is_integer ?l_is_integer ?c_is_integer ?k_is_integer; (case a_is_integer => k_is); (case l_is_integer => k_is); (case c_is_integer => k_is); (case k_is_integer => k_is)))
    (case h_is_tree => (refine' Dl.funIn ?a_is_tree ?l_is_tree ?c_is_tree ?k_is_tree; (case a_is_tree => k_is); (case l_is_tree => k_is); (case c_is_tree => k_is); (case k_is_tree => k_is)))
    (case h_check_tree => (refine' Dl.funIn ?a_check_tree ?l_check_tree ?c_check_tree ?k_check_tree; (case a_check_tree => k_is); (case l_check_tree => k_is); (case c_check_tree => k_is); (case k_check_tree => k_is)))
    (case h_needed_of => (refine' Dl.funIn ?a_needed_of ?l_needed_of ?c_needed_of ?k_needed_of; (case a_needed_of => k_is); (case l_needed_of => k_is); (case c_needed_of => k_is); (case k_needed_of => k_is)))
    (case h_needed => (refine' Dl.funIn ?a_needed ?l_needed ?c_needed ?k_needed; (case a_needed => k_is); (case l_needed => k_is); (case c_needed => k_is); (case k_needed => k_is)))
    (case h_worked => (refine' Dl.funIn ?a_worked ?l_worked ?c_worked ?k_worked; (case a_worked => k_is); (case l_worked => k_is); (case c_worked => k_is); (case k_worked => k_is)))
    (case h_deeds_for => (refine' Dl.funIn ?a_deeds_for ?l_deeds_for ?c_deeds_for ?k_deeds_for; (case a_deeds_for => k_is); (case l_deeds_for => k_is); (case c_deeds_for => k_is); (case k_deeds_for => k_is)))
    (case h_run_of => (refine' Dl.funIn ?a_run_of ?l_run_of ?c_run_of ?k_run_of; (case a_run_of => k_is); (case l_run_of => k_is); (case c_run_of => k_is); (case k_run_of => k_is)))
    (case h_run_deeds => (refine' Dl.funIn ?a_run_deeds ?l_run_deeds ?c_run_deeds ?k_run_deeds; (case a_run_deeds => k_is); (case l_run_deeds => k_is); (case c_run_deeds => k_is); (case k_run_deeds => k_is)))
    (case h_accept_deeds => (refine' Dl.funIn ?a_accept_deeds ?l_accept_deeds ?c_accept_deeds ?k_accept_deeds; (case a_accept_deeds => k_is); (case l_accept_deeds => k_is); (case c_accept_deeds => k_is); (case k_accept_deeds => k_is)))
    (case h_numbers_of => (refine' Dl.funIn ?a_numbers_of ?l_numbers_of ?c_numbers_of ?k_numbers_of; (case a_numbers_of => k_is); (case l_numbers_of => k_is); (case c_numbers_of => k_is); (case k_numbers_of => k_is)))
    (case h_numbered => (refine' Dl.funIn ?a_numbered ?l_numbered ?c_numbered ?k_numbered; (case a_numbered => k_is); (case l_numbered => k_is); (case c_numbered => k_is); (case k_numbered => k_is)))
    (case h_are_numbers => (refine' Dl.funIn ?a_are_numbers ?l_are_numbers ?c_are_numbers ?k_are_numbers; (case a_are_numbers => k_is); (case l_are_numbers => k_is); (case c_are_numbers => k_is); (case k_are_numbers => k_is)))
    (case h_accept_numbers => (refine' Dl.funIn ?a_accept_numbers ?l_accept_numbers ?c_accept_numbers ?k_accept_numbers; (case a_accept_numbers => k_is); (case l_accept_numbers => k_is); (case c_accept_numbers => k_is); (case k_accept_numbers => k_is)))
    (case h__law_start => (refine' Dl.funIn ?a__law_start ?l__law_start ?c__law_start ?k__law_start; (case a__law_start => k_is); (case l__law_start => k_is); (case c__law_start => k_is); (case k__law_start => k_is)))
    (case h__law_draw => (refine' Dl.funIn ?a__law_draw ?l__law_draw ?c__law_draw ?k__law_draw; (case a__law_draw => k_is); (case l__law_draw => k_is); (case c__law_draw => k_is); (case k__law_draw => k_is)))
    (case h__law_pick => (refine' Dl.funIn ?a__law_pick ?l__law_pick ?c__law_pick ?k__law_pick; (case a__law_pick => k_is); (case l__law_pick => k_is); (case c__law_pick => k_is); (case k__law_pick => k_is)))
    (case h__law_same => (refine' Dl.funIn ?a__law_same ?l__law_same ?c__law_same ?k__law_same; (case a__law_same => k_is); (case l__law_same => k_is); (case c__law_same => k_is); (case k__law_same => k_is)))
    (case h__law_word => (refine' Dl.funIn ?a__law_word ?l__law_word ?c__law_word ?k__law_word; (case a__law_word => k_is); (case l__law_word => k_is); (case c__law_word => k_is); (case k__law_word => k_is)))
    (case h__law_asked => (refine' Dl.funIn ?a__law_asked ?l__law_asked ?c__law_asked ?k__law_asked; (case a__law_asked => k_is); (case l__law_asked => k_is); (case c__law_asked => k_is); (case k__law_asked => k_is)))
    (case h__law_tree => (refine' Dl.funIn ?a__law_tree ?l__law_tree ?c__law_tree ?k__law_tree; (case a__law_tree => k_is); (case l__law_tree => k_is); (case c__law_tree => k_is); (case k__law_tree => k_is)))
    (case h__law_need => (refine' Dl.funIn ?a__law_need ?l__law_need ?c__law_need ?k__law_need; (case a__law_need => k_is); (case l__law_need => k_is); (case c__law_need => k_is); (case k__law_need => k_is)))
    (case h__law_deeds => (refine' Dl.funIn ?a__law_deeds ?l__law_deeds ?c__law_deeds ?k__law_deeds; (case a__law_deeds => k_is); (case l__law_deeds => k_is); (case c__law_deeds => k_is); (case k__law_deeds => k_is)))
    (case h__law_numbers => (refine' Dl.funIn ?a__law_numbers ?l__law_numbers ?c__law_numbers ?k__law_numbers; (case a__law_numbers => k_is); (case l__law_numbers => k_is); (case c__law_numbers => k_is); (case k__law_numbers => k_is)))
    (case h__law_depth => (refine' Dl.funIn ?a__law_depth ?l__law_depth ?c__law_depth ?k__law_depth; (case a__law_depth => k_is); (case l__law_depth => k_is); (case c__law_depth => k_is); (case k__law_depth => k_is)))
    (case h__law_whole => (refine' Dl.funIn ?a__law_whole ?l__law_whole ?c__law_whole ?k__law_whole; (case a__law_whole => k_is); (case l__law_whole => k_is); (case c__law_whole => k_is); (case k__law_whole => k_is)))
    (case h__law_done => (refine' Dl.funIn ?a__law_done ?l__law_done ?c__law_done ?k__law_done; (case a__law_done => k_is); (case l__law_done => k_is); (case c__law_done => k_is); (case k__law_done => k_is)))
    (case h__law_are_numbers => (refine' Dl.funIn ?a__law_are_numbers ?l__law_are_numbers ?c__law_are_numbers ?k__law_are_numbers; (case a__law_are_numbers => k_is); (case l__law_are_numbers => k_is); (case c__law_are_numbers => k_is); (case k__law_are_numbers => k_is)))
    (case h__law_deeds_due => (refine' Dl.funIn ?a__law_deeds_due ?l__law_deeds_due ?c__law_deeds_due ?k__law_deeds_due; (case a__law_deeds_due => k_is); (case l__law_deeds_due => k_is); (case c__law_deeds_due => k_is); (case k__law_deeds_due => k_is)))
    (case h__law_odd => (refine' Dl.funIn ?a__law_odd ?l__law_odd ?c__law_odd ?k__law_odd; (case a__law_odd => k_is); (case l__law_odd => k_is); (case c__law_odd => k_is); (case k__law_odd => k_is)))
    (case h__law_spoilt => (refine' Dl.funIn ?a__law_spoilt ?l__law_spoilt ?c__law_spoilt ?k__law_spoilt; (case a__law_spoilt => k_is); (case l__law_spoilt => k_is); (case c__law_spoilt => k_is); (case k__law_spoilt => k_is)))
    (case h__law_refused => (refine' Dl.funIn ?a__law_refused ?l__law_refused ?c__law_refused ?k__law_refused; (case a__law_refused => k_is); (case l__law_refused => k_is); (case c__law_refused => k_is); (case k__law_refused => k_is)))
    (case h_law => (refine' Dl.funIn ?a_law ?l_law ?c_law ?k_law; (case a_law => k_is); (case l_law => k_is); (case c_law => k_is); (case k_law => k_is)))
    (case z_ValueError => k_is)
    (case z_abs => k_is)
    (case z_all => k_is)
    (case z_bool => k_is)
    (case z_int => k_is)
    (case z_isinstance => k_is)
    (case z_len => k_is)
    (case z_list => k_is)
    (case z_max => k_is)
    (case z_range => k_is)
    (case z_repr => k_is)
    (case z_sorted => k_is)
    (case z_str => k_is)
    (case z_super => k_is)
    (case z_tuple => k_is)
    (case z_MAX_SPANS => exact ⟨_, by k_is⟩)
    (case z_MAX_DEPTH => exact ⟨_, by k_is⟩)
    (case oq => k_is)
    (case tp => decide +kernel)
    (case h_HeapError => (refine' Dl.errIn ?aC_HeapError ?aM_HeapError ?xL_HeapError ?rf_HeapError ?sa_HeapError ?hg_HeapError ?hk_HeapError ?hs_HeapError ?hd_HeapError ?ha_HeapError ?hn_HeapError ?ht_HeapError ?hm_HeapError ?tyC_HeapError ?kC_HeapError ?noA_HeapError ?ini_HeapError ?tyf_HeapError ?lf_HeapError ?co_HeapError ?lc_HeapError ?v2_HeapError ?fe_HeapError ?le_HeapError ?s1_HeapError ?sV_HeapError ?su_HeapError ?kv_HeapError ?ex_HeapError; (case aC_HeapError => k_is); (case aM_HeapError => k_is); (case xL_HeapError => k_is); (case rf_HeapError => decide +kernel); (case sa_HeapError => k_is); (case hg_HeapError => k_is); (case hk_HeapError => k_is); (case hs_HeapError => k_is); (case hd_HeapError => k_is); (case ha_HeapError => k_is); (case hn_HeapError => k_is); (case ht_HeapError => k_is); (case hm_HeapError => k_is); (case tyC_HeapError => k_is); (case kC_HeapError => k_is); (case noA_HeapError => k_is); (case ini_HeapError => k_is); (case tyf_HeapError => k_is); (case lf_HeapError => k_is); (case co_HeapError => k_is); (case lc_HeapError => k_is); (case v2_HeapError => rfl); (case fe_HeapError => decide +kernel); (case le_HeapError => k_is); (case s1_HeapError => k_is); (case sV_HeapError => k_is); (case su_HeapError => ks_is); (case kv_HeapError => kit_is); (case ex_HeapError => kts_exm)))
    (case h_ArgumentError => (refine' Dl.errIn ?aC_ArgumentError ?aM_ArgumentError ?xL_ArgumentError ?rf_ArgumentError ?sa_ArgumentError ?hg_ArgumentError ?hk_ArgumentError ?hs_ArgumentError ?hd_ArgumentError ?ha_ArgumentError ?hn_ArgumentError ?ht_ArgumentError ?hm_ArgumentError ?tyC_ArgumentError ?kC_ArgumentError ?noA_ArgumentError ?ini_ArgumentError ?tyf_ArgumentError ?lf_ArgumentError ?co_ArgumentError ?lc_ArgumentError ?v2_ArgumentError ?fe_ArgumentError ?le_ArgumentError ?s1_ArgumentError ?sV_ArgumentError ?su_ArgumentError ?kv_ArgumentError ?ex_ArgumentError; (case aC_ArgumentError => k_is); (case aM_ArgumentError => k_is); (case xL_ArgumentError => k_is); (case rf_ArgumentError => decide +kernel); (case sa_ArgumentError => k_is); (case hg_ArgumentError => k_is); (case hk_ArgumentError => k_is); (case hs_ArgumentError => k_is); (case hd_ArgumentError => k_is); (case ha_ArgumentError => k_is); (case hn_ArgumentError => k_is); (case ht_ArgumentError => k_is); (case hm_ArgumentError => k_is); (case tyC_ArgumentError => k_is); (case kC_ArgumentError => k_is); (case noA_ArgumentError => k_is); (case ini_ArgumentError => k_is); (case tyf_ArgumentError => k_is); (case lf_ArgumentError => k_is); (case co_ArgumentError => k_is); (case lc_ArgumentError => k_is); (case v2_ArgumentError => rfl); (case fe_ArgumentError => decide +kernel); (case le_ArgumentError => k_is); (case s1_ArgumentError => k_is); (case sV_ArgumentError => k_is); (case su_ArgumentError => ks_is); (case kv_ArgumentError => kit_is); (case ex_ArgumentError => kts_exm)))
    (case h_PaperError => (refine' Dl.errIn ?aC_PaperError ?aM_PaperError ?xL_PaperError ?rf_PaperError ?sa_PaperError ?hg_PaperError ?hk_PaperError ?hs_PaperError ?hd_PaperError ?ha_PaperError ?hn_PaperError ?ht_PaperError ?hm_PaperError ?tyC_PaperError ?kC_PaperError ?noA_PaperError ?ini_PaperError ?tyf_PaperError ?lf_PaperError ?co_PaperError ?lc_PaperError ?v2_PaperError ?fe_PaperError ?le_PaperError ?s1_PaperError ?sV_PaperError ?su_PaperError ?kv_PaperError ?ex_PaperError; (case aC_PaperError => k_is); (case aM_PaperError => k_is); (case xL_PaperError => k_is); (case rf_PaperError => decide +kernel); (case sa_PaperError => k_is); (case hg_PaperError => k_is); (case hk_PaperError => k_is); (case hs_PaperError => k_is); (case hd_PaperError => k_is); (case ha_PaperError => k_is); (case hn_PaperError => k_is); (case ht_PaperError => k_is); (case hm_PaperError => k_is); (case tyC_PaperError => k_is); (case kC_PaperError => k_is); (case noA_PaperError => k_is); (case ini_PaperError => k_is); (case tyf_PaperError => k_is); (case lf_PaperError => k_is); (case co_PaperError => k_is); (case lc_PaperError => k_is); (case v2_PaperError => rfl); (case fe_PaperError => decide +kernel); (case le_PaperError => k_is); (case s1_PaperError => k_is); (case sV_PaperError => k_is); (case su_PaperError => ks_is); (case kv_PaperError => kit_is); (case ex_PaperError => kts_exm)))
    (case h_TooMany => (refine' Dl.errIn ?aC_TooMany ?aM_TooMany ?xL_TooMany ?rf_TooMany ?sa_TooMany ?hg_TooMany ?hk_TooMany ?hs_TooMany ?hd_TooMany ?ha_TooMany ?hn_TooMany ?ht_TooMany ?hm_TooMany ?tyC_TooMany ?kC_TooMany ?noA_TooMany ?ini_TooMany ?tyf_TooMany ?lf_TooMany ?co_TooMany ?lc_TooMany ?v2_TooMany ?fe_TooMany ?le_TooMany ?s1_TooMany ?sV_TooMany ?su_TooMany ?kv_TooMany ?ex_TooMany; (case aC_TooMany => k_is); (case aM_TooMany => k_is); (case xL_TooMany => k_is); (case rf_TooMany => decide +kernel); (case sa_TooMany => k_is); (case hg_TooMany => k_is); (case hk_TooMany => k_is); (case hs_TooMany => k_is); (case hd_TooMany => k_is); (case ha_TooMany => k_is); (case hn_TooMany => k_is); (case ht_TooMany => k_is); (case hm_TooMany => k_is); (case tyC_TooMany => k_is); (case kC_TooMany => k_is); (case noA_TooMany => k_is); (case ini_TooMany => k_is); (case tyf_TooMany => k_is); (case lf_TooMany => k_is); (case co_TooMany => k_is); (case lc_TooMany => k_is); (case v2_TooMany => rfl); (case fe_TooMany => decide +kernel); (case le_TooMany => k_is); (case s1_TooMany => k_is); (case sV_TooMany => k_is); (case su_TooMany => ks_is); (case kv_TooMany => kit_is); (case ex_TooMany => kts_exm)))
    (case p_HeapError_HeapError => kit_is)
    (case p_HeapError_ArgumentError => kit_is)
    (case p_HeapError_PaperError => kit_is)
    (case p_HeapError_TooMany => kit_is)
    (case p_ArgumentError_HeapError => kit_is)
    (case p_ArgumentError_ArgumentError => kit_is)
    (case p_ArgumentError_PaperError => kit_is)
    (case p_ArgumentError_TooMany => kit_is)
    (case p_PaperError_HeapError => kit_is)
    (case p_PaperError_ArgumentError => kit_is)
    (case p_PaperError_PaperError => kit_is)
    (case p_PaperError_TooMany => kit_is)
    (case p_TooMany_HeapError => kit_is)
    (case p_TooMany_ArgumentError => kit_is)
    (case p_TooMany_PaperError => kit_is)
    (case p_TooMany_TooMany => kit_is)
