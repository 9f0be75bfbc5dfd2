import PyProof.Rows.All
import Wide.All
import OpenK.AllK
import Wide.FinOn
import HandS.ForMost
import HandS.Evl
import HandS.Conv
import HandS.More
import HandS.SortInts
import HandS.IsInst
import HandS.TupMul
import HandS.TupAny
import HandS.TupSets
import HandS.SetFor
import HandS.List
import KE.KSortTupG
import KE.KSortTupUse
import HandS.Style
import HandS.Wide
import HandS.Exc
import HandS.ExcIs
import HandS.TryOnly
import HandS.ExcOwn
import HandS.ExcValue
import HandS.WordsExc
import HandS.TupLe
import HandS.Zip
import HandS.DictComp
import KE.GoesMore
import KE.GoesEnum
import PySem.Challenge.RW_warmove_k21_whole_windows_and_matchings
set_option Elab.async false
set_option linter.all false
set_option maxRecDepth 100000
/-! The G-layer: typed data over the abstract heap, an abstract state of slots, rules over it. -/
namespace GL
open PySem L2
abbrev Fg := PySem.W.Frag

/-! ### data -/
class Py (α : Type) where
  rep : Fg → Hp → V → α → Prop
  mono : ∀ {K : Fg} {H H' : Hp} {v : V} {x : α}, Same H H' → rep K H v x → rep K H' v x
instance : Py Int := ⟨fun _ _ v x => v = .int x, fun _ h => h⟩
instance : Py Bool := ⟨fun _ _ v x => v = .bl x, fun _ h => h⟩
instance : Py Str := ⟨fun _ _ v x => v = .str x, fun _ h => h⟩
instance : Py Unit := ⟨fun _ _ v _ => v = .non, fun _ h => h⟩
def RepL {α : Type} [Py α] (K : Fg) (S : Hp) : List V → List α → Prop
  | [], [] => True
  | v :: vs, x :: xs => Py.rep K S v x ∧ RepL K S vs xs
  | _, _ => False
section
variable {α : Type} [Py α] {K : Fg} {S S' : Hp}
theorem RepL.mono (e : Same S S') : ∀ {vs : List V} {xs : List α}, RepL K S vs xs → RepL K S' vs xs
  | [], [], _ => True.intro
  | _ :: _, _ :: _, h => ⟨Py.mono e h.1, RepL.mono e h.2⟩
  | [], _ :: _, h => h.elim
  | _ :: _, [], h => h.elim
theorem RepL.len : ∀ {vs : List V} {xs : List α}, RepL K S vs xs → vs.length = xs.length
  | [], [], _ => rfl
  | _ :: vs, _ :: xs, h => by rw [List.length_cons, List.length_cons, RepL.len h.2]
  | [], _ :: _, h => h.elim
  | _ :: _, [], h => h.elim
theorem RepL.app : ∀ {vs ws : List V} {xs ys : List α}, RepL K S vs xs → RepL K S ws ys → RepL K S (vs ++ ws) (xs ++ ys)
  | [], _, [], _, _, h => h
  | _ :: _, _, _ :: _, _, h, h' => ⟨h.1, RepL.app h.2 h'⟩
  | [], _, _ :: _, _, h, _ => h.elim
  | _ :: _, _, [], _, h, _ => h.elim
theorem RepL.snoc {vs : List V} {xs : List α} {v : V} {x : α} (h : RepL K S vs xs) (r : Py.rep K S v x) : RepL K S (vs ++ [v]) (xs ++ [x]) := h.app ⟨r, True.intro⟩
theorem RepL.get : ∀ {vs : List V} {xs : List α} {i : Nat} {x : α}, RepL K S vs xs → xs[i]? = some x → ∃ v, vs[i]? = some v ∧ Py.rep K S v x
  | [], [], _, _, _, e => by simp at e
  | v :: _, y :: _, 0, x, h, e => by
    simp only [List.getElem?_cons_zero, Option.some.injEq] at e
    subst e
    exact ⟨v, rfl, h.1⟩
  | _ :: vs, _ :: xs, i + 1, x, h, e => by
    obtain ⟨w, h1, h2⟩ := RepL.get (vs := vs) (xs := xs) (i := i) (x := x) h.2 (by simpa using e)
    exact ⟨w, by simpa using h1, h2⟩
  | [], _ :: _, _, _, h, _ => h.elim
  | _ :: _, [], _, _, h, _ => h.elim
theorem RepL.got {vs : List V} {xs : List α} {i : Nat} {v : V} (h : RepL K S vs xs) (e : vs[i]? = some v) : ∃ x, xs[i]? = some x ∧ Py.rep K S v x := by
  have hl := h.len
  have hi : i < xs.length := by
    rw [← hl]
    exact (List.getElem?_eq_some_iff.mp e).1
  obtain ⟨w, h1, h2⟩ := h.get (List.getElem?_eq_getElem hi)
  rw [h1] at e
  cases e
  exact ⟨_, List.getElem?_eq_getElem hi, h2⟩
theorem RepL.set : ∀ {vs : List V} {xs : List α} {i : Nat} {v : V} {x : α}, RepL K S vs xs → Py.rep K S v x → RepL K S (vs.set i v) (xs.set i x)
  | [], [], _, _, _, _, _ => True.intro
  | _ :: _, _ :: _, 0, _, _, h, r => ⟨r, h.2⟩
  | _ :: _, _ :: _, _ + 1, _, _, h, r => ⟨h.1, RepL.set h.2 r⟩
  | [], _ :: _, _, _, _, h, _ => h.elim
  | _ :: _, [], _, _, _, h, _ => h.elim
theorem RepL.drop : ∀ {vs : List V} {xs : List α} (n : Nat), RepL K S vs xs → RepL K S (vs.drop n) (xs.drop n)
  | _, _, 0, h => h
  | [], [], _ + 1, _ => True.intro
  | _ :: _, _ :: _, n + 1, h => RepL.drop n h.2
  | [], _ :: _, _, h => h.elim
  | _ :: _, [], _, h => h.elim
theorem RepL.take : ∀ {vs : List V} {xs : List α} (n : Nat), RepL K S vs xs → RepL K S (vs.take n) (xs.take n)
  | _, _, 0, _ => True.intro
  | [], [], _ + 1, _ => True.intro
  | _ :: _, _ :: _, n + 1, h => ⟨h.1, RepL.take n h.2⟩
  | [], _ :: _, _, h => h.elim
  | _ :: _, [], _, h => h.elim
theorem RepL.erase : ∀ {vs : List V} {xs : List α} (n : Nat), RepL K S vs xs → RepL K S (vs.eraseIdx n) (xs.eraseIdx n)
  | [], [], _, _ => True.intro
  | _ :: _, _ :: _, 0, h => h.2
  | _ :: _, _ :: _, n + 1, h => ⟨h.1, RepL.erase n h.2⟩
  | [], _ :: _, _, h => h.elim
  | _ :: _, [], _, h => h.elim
theorem RepL.rep {vs : List V} {xs : List α} (h : RepL K S vs xs) : ∀ n : Nat, RepL K S (List.replicate n vs).flatten (List.replicate n xs).flatten
  | 0 => True.intro
  | n + 1 => by
    rw [List.replicate_succ, List.replicate_succ, List.flatten_cons, List.flatten_cons]
    exact h.app (RepL.rep h n)
theorem RepL.rev : ∀ {vs : List V} {xs : List α}, RepL K S vs xs → RepL K S vs.reverse xs.reverse
  | [], [], _ => True.intro
  | _ :: _, _ :: _, h => by
    rw [List.reverse_cons, List.reverse_cons]
    exact (RepL.rev h.2).snoc h.1
  | [], _ :: _, h => h.elim
  | _ :: _, [], h => h.elim
end
theorem RepL.ints {K : Fg} {S : Hp} : ∀ {vs : List V} {xs : List Int}, RepL K S vs xs → vs = xs.map V.int
  | [], [], _ => rfl
  | _ :: _, _ :: _, h => by
    rw [List.map_cons, ← RepL.ints h.2, show _ = V.int _ from h.1]
  | [], _ :: _, h => h.elim
  | _ :: _, [], h => h.elim
theorem RepL.bls {K : Fg} {S : Hp} : ∀ {vs : List V} {xs : List Bool}, RepL K S vs xs → vs = xs.map V.bl
  | [], [], _ => rfl
  | _ :: _, _ :: _, h => by
    rw [List.map_cons, ← RepL.bls h.2, show _ = V.bl _ from h.1]
  | [], _ :: _, h => h.elim
  | _ :: _, [], h => h.elim
theorem RepL.of_ints {K : Fg} {S : Hp} : ∀ (xs : List Int), RepL K S (xs.map V.int) xs
  | [] => True.intro
  | _ :: xs => ⟨rfl, RepL.of_ints xs⟩
theorem seqT {K : Fg} {H H' : Hp} {a : Addr} {xs : List V} (e : Same H H') (h : SqT K H a xs) : SqT K H' a xs := by
  rcases h with (h | ⟨o, h⟩) | h
  · exact .inl (.inl (e _ _ h))
  · exact .inl (.inr ⟨o, e _ _ h⟩)
  · exact .inr h
/-- a list -/
instance {α : Type} [Py α] : Py (List α) := ⟨fun K S v xs => ∃ p vs, v = .ref p ∧ S p = some (.lst vs) ∧ RepL K S vs xs, fun e ⟨p, vs, h1, h2, h3⟩ => ⟨p, vs, h1, e _ _ h2, h3.mono e⟩⟩
/-- a tuple of any length -/
structure Tp (α : Type) where
  l : List α
  deriving DecidableEq
instance {α : Type} [Py α] : Py (Tp α) := ⟨fun K S v xs => ∃ p vs, v = .ref p ∧ SqT K S p vs ∧ RepL K S vs xs.l, fun e ⟨p, vs, h1, h2, h3⟩ => ⟨p, vs, h1, seqT e h2, h3.mono e⟩⟩
/-- a pair -/
instance {α β : Type} [Py α] [Py β] : Py (α × β) := ⟨fun K S v x => ∃ p a b, v = .ref p ∧ SqT K S p [a, b] ∧ Py.rep K S a x.1 ∧ Py.rep K S b x.2, fun e ⟨p, a, b, h1, h2, h3, h4⟩ => ⟨p, a, b, h1, seqT e h2, Py.mono e h3, Py.mono e h4⟩⟩
structure T3 (α β γ : Type) where
  a : α
  b : β
  c : γ
  deriving DecidableEq
instance {α β γ : Type} [Py α] [Py β] [Py γ] : Py (T3 α β γ) := ⟨fun K S v x => ∃ p a b c, v = .ref p ∧ SqT K S p [a, b, c] ∧ Py.rep K S a x.a ∧ Py.rep K S b x.b ∧ Py.rep K S c x.c,
  fun e ⟨p, a, b, c, h1, h2, h3, h4, h5⟩ => ⟨p, a, b, c, h1, seqT e h2, Py.mono e h3, Py.mono e h4, Py.mono e h5⟩⟩
/-- None or a thing; one of two kinds of things -/
instance {α : Type} [Py α] : Py (Option α) := ⟨fun K S v x => match x with | none => v = .non | some y => Py.rep K S v y, fun {K H H' v x} e h => by cases x with | none => exact h | some y => exact Py.mono e h⟩
instance {α β : Type} [Py α] [Py β] : Py (Sum α β) := ⟨fun K S v x => match x with | .inl y => Py.rep K S v y | .inr y => Py.rep K S v y, fun {K H H' v x} e h => by cases x with | inl y => exact Py.mono e h | inr y => exact Py.mono e h⟩
/-- the script -/
structure Scr where
  l : List Int
instance : Py Scr := ⟨fun K S v x => ∃ p, v = .ref p ∧ SqL K S p (x.l.map V.int), fun e ⟨p, h1, h2⟩ => ⟨p, h1, e.seq h2⟩⟩
/-- a dict with int keys -/
structure Dct (α : Type) where
  l : List (Int × α)
namespace Dct
variable {α : Type}
def get? (d : Dct α) (k : Int) : Option α := (d.l.find? fun kv => decide (kv.1 = k)).map (·.2)
def put (d : Dct α) (k : Int) (x : α) : Dct α := ⟨if d.l.any (fun kv => decide (kv.1 = k)) then d.l.map (fun kv => if kv.1 = k then (kv.1, x) else kv) else d.l ++ [(k, x)]⟩
def del (d : Dct α) (k : Int) : Dct α := ⟨d.l.filter fun kv => decide (kv.1 ≠ k)⟩
def emp : Dct α := ⟨[]⟩
end Dct
def RepD {α : Type} [Py α] (K : Fg) (S : Hp) : List (Key × V) → List (Int × α) → Prop
  | [], [] => True
  | kv :: kvs, x :: xs => kv.1 = .inl x.1 ∧ Py.rep K S kv.2 x.2 ∧ RepD K S kvs xs
  | _, _ => False
section
variable {α : Type} [Py α] {K : Fg} {S S' : Hp}
theorem RepD.mono (e : Same S S') : ∀ {kvs : List (Key × V)} {xs : List (Int × α)}, RepD K S kvs xs → RepD K S' kvs xs
  | [], [], _ => True.intro
  | _ :: _, _ :: _, h => ⟨h.1, Py.mono e h.2.1, RepD.mono e h.2.2⟩
  | [], _ :: _, h => h.elim
  | _ :: _, [], h => h.elim
theorem RepD.len : ∀ {kvs : List (Key × V)} {xs : List (Int × α)}, RepD K S kvs xs → kvs.length = xs.length
  | [], [], _ => rfl
  | _ :: _, _ :: _, h => by rw [List.length_cons, List.length_cons, RepD.len h.2.2]
  | [], _ :: _, h => h.elim
  | _ :: _, [], h => h.elim
theorem dec_inl (a b : Int) : decide ((Sum.inl a : Key) = Sum.inl b) = decide (a = b) := by
  by_cases e : a = b
  · subst e; simp
  · rw [decide_eq_false e, decide_eq_false (fun q => e (Sum.inl.inj q))]
theorem RepD.val : ∀ {kvs : List (Key × V)} {xs : List (Int × α)} (k : Int), RepD K S kvs xs → match (xs.find? fun kv => decide (kv.1 = k)).map (·.2) with
    | some x => ∃ v, valV kvs (Sum.inl k) = some v ∧ Py.rep K S v x
    | none => valV kvs (Sum.inl k) = none
  | [], [], _, _ => rfl
  | kv :: kvs, x :: xs, k, h => by
    obtain ⟨h1, h2, h3⟩ := h
    by_cases e : x.1 = k
    · have e1 : kv.1 = Sum.inl k := by rw [h1, e]
      rw [List.find?_cons, show decide (x.1 = k) = true from decide_eq_true e]
      exact ⟨kv.2, valV_pos e1, h2⟩
    · have e1 : ¬ kv.1 = Sum.inl k := by rw [h1]; exact fun q => e (Sum.inl.inj q)
      rw [List.find?_cons, show decide (x.1 = k) = false from decide_eq_false e, valV_neg e1]
      exact RepD.val k h3
  | [], _ :: _, _, h => h.elim
  | _ :: _, [], _, h => h.elim
theorem RepD.any : ∀ {kvs : List (Key × V)} {xs : List (Int × α)} (k : Int), RepD K S kvs xs → (kvs.any fun kv => decide (kv.1 = Sum.inl k)) = xs.any fun kv => decide (kv.1 = k)
  | [], [], _, _ => rfl
  | kv :: kvs, x :: xs, k, h => by
    rw [List.any_cons, List.any_cons, RepD.any k h.2.2, h.1, dec_inl]
  | [], _ :: _, _, h => h.elim
  | _ :: _, [], _, h => h.elim
theorem RepD.repl {v : V} {y : α} (k : Int) (r : Py.rep K S v y) : ∀ {kvs : List (Key × V)} {xs : List (Int × α)}, RepD K S kvs xs →
    RepD K S (kvs.map fun kv => if kv.1 = Sum.inl k then (kv.1, v) else kv) (xs.map fun kv => if kv.1 = k then (kv.1, y) else kv)
  | [], [], _ => True.intro
  | kv :: kvs, x :: xs, h => by
    obtain ⟨h1, h2, h3⟩ := h
    rw [List.map_cons, List.map_cons]
    by_cases e : x.1 = k
    · have e1 : kv.1 = Sum.inl k := by rw [h1, e]
      rw [if_pos e1, if_pos e]
      exact ⟨h1, r, RepD.repl k r h3⟩
    · have e1 : ¬ kv.1 = Sum.inl k := by rw [h1]; exact fun q => e (Sum.inl.inj q)
      rw [if_neg e1, if_neg e]
      exact ⟨h1, h2, RepD.repl k r h3⟩
  | [], _ :: _, h => h.elim
  | _ :: _, [], h => h.elim
theorem RepD.snoc {v : V} {y : α} (k : Int) (r : Py.rep K S v y) : ∀ {kvs : List (Key × V)} {xs : List (Int × α)}, RepD K S kvs xs → RepD K S (kvs ++ [(Sum.inl k, v)]) (xs ++ [(k, y)])
  | [], [], _ => ⟨rfl, r, True.intro⟩
  | _ :: _, _ :: _, h => ⟨h.1, h.2.1, RepD.snoc k r h.2.2⟩
  | [], _ :: _, h => h.elim
  | _ :: _, [], h => h.elim
theorem RepD.put {v : V} {y : α} (k : Int) (r : Py.rep K S v y) {kvs : List (Key × V)} {d : Dct α} (h : RepD K S kvs d.l) : RepD K S (putK kvs (Sum.inl k) v) (d.put k y).l := by
  unfold putK Dct.put
  rw [h.any k]
  by_cases e : (d.l.any fun kv => decide (kv.1 = k)) = true
  · rw [if_pos e, if_pos e]
    exact h.repl k r
  · rw [if_neg e, if_neg e]
    exact h.snoc k r
theorem RepD.del (k : Int) : ∀ {kvs : List (Key × V)} {xs : List (Int × α)}, RepD K S kvs xs → RepD K S (dropK kvs (Sum.inl k)) (xs.filter fun kv => decide (kv.1 ≠ k))
  | [], [], _ => True.intro
  | kv :: kvs, x :: xs, h => by
    obtain ⟨h1, h2, h3⟩ := h
    have ih := RepD.del k h3
    by_cases e : x.1 = k
    · have e1 : kv.1 = Sum.inl k := by rw [h1, e]
      rw [dropK_pos e1, List.filter_cons, if_neg (by simp [e])]
      exact ih
    · have e1 : ¬ kv.1 = Sum.inl k := by rw [h1]; exact fun q => e (Sum.inl.inj q)
      rw [dropK_neg e1, List.filter_cons, if_pos (by simp [e])]
      exact ⟨h1, h2, ih⟩
  | [], _ :: _, h => h.elim
  | _ :: _, [], h => h.elim
end
instance {α : Type} [Py α] : Py (Dct α) := ⟨fun K S v d => ∃ p kvs, v = .ref p ∧ S p = some (.dK kvs) ∧ RepD K S kvs d.l, fun e ⟨p, vs, h1, h2, h3⟩ => ⟨p, vs, h1, e _ _ h2, h3.mono e⟩⟩

/-! ### owned things -/
class Own (α : Type) where
  own : Fg → Hp → Hp → V → List Addr → α → Prop
  mono : ∀ {K : Fg} {S S' H H' : Hp} {v : V} {ps : List Addr} {x : α}, Same S S' → (∀ p ∈ ps, H' p = H p) → own K S H v ps x → own K S' H' v ps x
instance {α : Type} [Py α] : Own (List α) := ⟨fun K S H v ps xs => ∃ p vs, v = .ref p ∧ ps = [p] ∧ H p = some (.lst vs) ∧ RepL K S vs xs, fun {K S S' H H' v ps x} e a ⟨p, vs, h1, h2, h3, h4⟩ =>
  ⟨p, vs, h1, h2, by rw [a p (by rw [h2]; exact List.mem_singleton.mpr rfl)]; exact h3, h4.mono e⟩⟩
instance {α : Type} [Py α] : Own (Dct α) := ⟨fun K S H v ps d => ∃ p kvs, v = .ref p ∧ ps = [p] ∧ H p = some (.dK kvs) ∧ RepD K S kvs d.l, fun {K S S' H H' v ps x} e a ⟨p, vs, h1, h2, h3, h4⟩ =>
  ⟨p, vs, h1, h2, by rw [a p (by rw [h2]; exact List.mem_singleton.mpr rfl)]; exact h3, h4.mono e⟩⟩
/-- a spring of the laws: a list of one int, where it stands -/
structure Spr where
  a : Addr
  z : Int
instance : Own Spr := ⟨fun K S H v ps x => v = .ref x.a ∧ ps = [x.a] ∧ H x.a = some (.lst [.int x.z]), fun {K S S' H H' v ps x} e a ⟨h1, h2, h3⟩ =>
  ⟨h1, h2, by rw [a x.a (by rw [h2]; exact List.mem_singleton.mpr rfl)]; exact h3⟩⟩
/-- owned things that tell where they stand -/
class Anch (ω : Type) [Own ω] where
  fp : ω → V × List Addr
  at_ : ∀ {K : Fg} {S H : Hp} {v : V} {ps : List Addr} {x : ω}, Own.own K S H v ps x → (v, ps) = fp x
instance : Anch Spr := ⟨fun x => (.ref x.a, [x.a]), fun ⟨h1, h2, _⟩ => by rw [h1, h2]⟩

/-! ### the state -/
inductive Sl : Type 1
  | no
  | im {α : Type} [Py α] (x : α)
  | ow {α : Type} [Own α] (x : α)
def SlOk (K : Fg) (S H : Hp) (sv : Option (Option V)) (ps : List Addr) : Sl → Prop
  | .no => True
  | @Sl.im _ inst x => ∃ v, sv = some (some v) ∧ inst.rep K S v x
  | @Sl.ow _ inst x => ∃ v, sv = some (some v) ∧ inst.own K S H v ps x
structure Kn (K : Fg) (B S0 S : Hp) (σ : St) (H : Hp) (F : Nat → List Addr) (G : List Sl) : Prop where
  s0 : Same S0 S
  sub : Same S H
  keep : Same B H
  clean : ∀ p o, B p = some o → S p = S0 p
  off : ∀ i p, p ∈ F i → S p = none ∧ B p = none ∧ ∃ o, H p = some o
  dj : ∀ i j p, p ∈ F i → p ∈ F j → i = j
  len : G.length = σ.length
  sl : ∀ i s, G[i]? = some s → SlOk K S H σ[i]? (F i) s
/-- only new objects have come -/
structure Grow (S H S' H' : Hp) : Prop where
  s : Same S S'
  sub : Same S' H'
  h : Same H H'
  cl : ∀ p o, H p = some o → S' p = S p
theorem Grow.refl {S H : Hp} (e : Same S H) : Grow S H S H := ⟨Same.refl _, e, Same.refl _, fun _ _ _ => rfl⟩
theorem Grow.trans {S H S1 H1 S2 H2 : Hp} (a : Grow S H S1 H1) (b : Grow S1 H1 S2 H2) : Grow S H S2 H2 :=
  ⟨a.s.trans b.s, b.sub, a.h.trans b.h, fun p o e => (b.cl p o (a.h p o e)).trans (a.cl p o e)⟩
theorem same_new {H : Hp} {p : Addr} {o : HO} (h : H p = none) : Same H (upd H p o) := fun b x e => by
  rw [upd_ne (ne_of_none e h)]
  exact e
theorem Grow.new {S H : Hp} {p : Addr} {o : HO} (e : Same S H) (h : H p = none) : Grow S H (upd S p o) (upd H p o) := by
  refine ⟨same_new (e.free h), fun b x q => ?_, same_new h, fun b x q => upd_ne (ne_of_none q h)⟩
  by_cases hb : b = p
  · subst hb
    rw [upd_same] at q ⊢
    exact q
  · rw [upd_ne hb] at q ⊢
    exact e b x q
/-- a new object that is not settled -/
theorem Grow.raw {S H : Hp} {p : Addr} {o : HO} (e : Same S H) (h : H p = none) : Grow S H S (upd H p o) := ⟨Same.refl _, e.trans (same_new h), same_new h, fun _ _ _ => rfl⟩
section
variable {K : Fg} {B S0 S S' : Hp} {σ : St} {H H' : Hp} {F : Nat → List Addr} {G : List Sl}
theorem Kn.grow (k : Kn K B S0 S σ H F G) (g : Grow S H S' H') : Kn K B S0 S' σ H' F G := by
  refine ⟨k.s0.trans g.s, g.sub, k.keep.trans g.h, fun p o e => (g.cl p o (k.keep p o e)).trans (k.clean p o e), fun i p hp => ?_, k.dj, k.len, fun i s e => ?_⟩
  · obtain ⟨h1, h2, o, h3⟩ := k.off i p hp
    exact ⟨(g.cl p o h3).trans h1, h2, o, g.h p o h3⟩
  · have q := k.sl i s e
    cases s with
    | no => exact True.intro
    | im x =>
      obtain ⟨v, h1, h2⟩ := q
      exact ⟨v, h1, Py.mono g.s h2⟩
    | ow x =>
      obtain ⟨v, h1, h2⟩ := q
      refine ⟨v, h1, Own.mono g.s (fun p hp => ?_) h2⟩
      obtain ⟨_, _, o, h3⟩ := k.off i p hp
      rw [h3]
      exact g.h p o h3
theorem Kn.new {p : Addr} {o : HO} (k : Kn K B S0 S σ H F G) (h : H p = none) : Kn K B S0 (upd S p o) σ (upd H p o) F G := k.grow (Grow.new k.sub h)
theorem Kn.raw {p : Addr} {o : HO} (k : Kn K B S0 S σ H F G) (h : H p = none) : Kn K B S0 S σ (upd H p o) F G := k.grow (Grow.raw k.sub h)
/-- an object that nobody owns is settled -/
theorem Kn.settle {p : Addr} {o : HO} (k : Kn K B S0 S σ H F G) (h : H p = some o) (hs : S p = none) (hb : B p = none) (hf : ∀ i, p ∉ F i) : Kn K B S0 (upd S p o) σ H F G := by
  have e : Same S (upd S p o) := same_new hs
  refine ⟨k.s0.trans e, fun b x q => ?_, k.keep, fun b x q => ?_, fun i b hb' => ?_, k.dj, k.len, fun i s q => ?_⟩
  · by_cases hbp : b = p
    · subst hbp
      rw [upd_same] at q
      rw [h, q]
    · rw [upd_ne hbp] at q
      exact k.sub b x q
  · rw [upd_ne (ne_of_none q hb)]
    exact k.clean b x q
  · obtain ⟨h1, h2, h3⟩ := k.off i b hb'
    have ne : b ≠ p := fun z => hf i (z ▸ hb')
    exact ⟨by rw [upd_ne ne]; exact h1, h2, h3⟩
  · have z := k.sl i s q
    cases s with
    | no => exact True.intro
    | im x =>
      obtain ⟨v, h1, h2⟩ := z
      exact ⟨v, h1, Py.mono e h2⟩
    | ow x =>
      obtain ⟨v, h1, h2⟩ := z
      exact ⟨v, h1, Own.mono e (fun _ _ => rfl) h2⟩
theorem Kn.free (k : Kn K B S0 S σ H F G) {p : Addr} (h : H p = none) : S p = none ∧ B p = none ∧ ∀ i, p ∉ F i := ⟨k.sub.free h, k.keep.free h, fun i hp => by
  obtain ⟨_, _, o, e⟩ := k.off i p hp
  rw [h] at e
  cases e⟩
theorem set_get.{u} {α : Type u} {l : List α} {i j : Nat} {x y : α} (h : (l.set i x)[j]? = some y) : (j = i ∧ y = x) ∨ (j ≠ i ∧ l[j]? = some y) := by
  by_cases e : j = i
  · subst e
    by_cases hl : j < l.length
    · rw [List.getElem?_set_self hl] at h
      exact .inl ⟨rfl, (Option.some.inj h).symm⟩
    · rw [List.getElem?_eq_none (by rw [List.length_set]; omega)] at h
      cases h
  · rw [List.getElem?_set_ne (fun z => e z.symm)] at h
    exact .inr ⟨e, h⟩
theorem isSome_lt.{u} {α : Type u} {l : List α} {i : Nat} (h : l[i]?.isSome = true) : i < l.length := by
  by_cases e : i < l.length
  · exact e
  · rw [List.getElem?_eq_none (by omega)] at h
    cases h
theorem Kn.set {α : Type} [Py α] {x : α} {v : V} {i : Nat} (k : Kn K B S0 S σ H F G) (r : Py.rep K S v x) (hi : G[i]?.isSome = true) : Kn K B S0 S (σ.set i (some v)) H F (G.set i (.im x)) := by
  have hl := isSome_lt hi
  refine ⟨k.s0, k.sub, k.keep, k.clean, k.off, k.dj, by rw [List.length_set, List.length_set]; exact k.len, fun j s e => ?_⟩
  rcases set_get e with ⟨rfl, rfl⟩ | ⟨ne, e⟩
  · exact ⟨v, List.getElem?_set_self (by rw [← k.len]; exact hl), r⟩
  · rw [List.getElem?_set_ne (fun z => ne z.symm)]
    exact k.sl j s e
theorem Kn.setNo {v : Option V} {i : Nat} (k : Kn K B S0 S σ H F G) : Kn K B S0 S (σ.set i v) H F (G.set i .no) := by
  refine ⟨k.s0, k.sub, k.keep, k.clean, k.off, k.dj, by rw [List.length_set, List.length_set]; exact k.len, fun j s e => ?_⟩
  rcases set_get e with ⟨rfl, rfl⟩ | ⟨ne, e⟩
  · exact True.intro
  · rw [List.getElem?_set_ne (fun z => ne z.symm)]
    exact k.sl j s e
def upF (F : Nat → List Addr) (i : Nat) (ps : List Addr) : Nat → List Addr := fun j => if j = i then ps else F j
theorem upF_self {i : Nat} {ps : List Addr} : upF F i ps i = ps := if_pos rfl
theorem upF_ne {i j : Nat} {ps : List Addr} (h : j ≠ i) : upF F i ps j = F j := if_neg h
theorem Kn.setOwn {α : Type} [Own α] {x : α} {v : V} {i : Nat} {p : Addr} (k : Kn K B S0 S σ H F G) (r : Own.own K S H v [p] x) (hi : G[i]?.isSome = true) (hs : S p = none) (hb : B p = none) (hp : ∃ o, H p = some o) (hf : ∀ j, p ∉ F j) :
    Kn K B S0 S (σ.set i (some v)) H (upF F i [p]) (G.set i (.ow x)) := by
  have hl := isSome_lt hi
  refine ⟨k.s0, k.sub, k.keep, k.clean, fun j q hq => ?_, fun a b q ha hb' => ?_, by rw [List.length_set, List.length_set]; exact k.len, fun j s e => ?_⟩
  · by_cases e : j = i
    · subst e
      rw [upF_self] at hq
      cases List.mem_singleton.mp hq
      exact ⟨hs, hb, hp⟩
    · rw [upF_ne e] at hq
      exact k.off j q hq
  · by_cases ea : a = i
    · by_cases eb : b = i
      · rw [ea, eb]
      · rw [ea, upF_self] at ha
        rw [upF_ne eb] at hb'
        cases List.mem_singleton.mp ha
        exact absurd hb' (hf b)
    · rw [upF_ne ea] at ha
      by_cases eb : b = i
      · rw [eb, upF_self] at hb'
        cases List.mem_singleton.mp hb'
        exact absurd ha (hf a)
      · rw [upF_ne eb] at hb'
        exact k.dj a b q ha hb'
  · rcases set_get e with ⟨rfl, rfl⟩ | ⟨ne, e⟩
    · rw [upF_self]
      exact ⟨v, List.getElem?_set_self (by rw [← k.len]; exact hl), r⟩
    · rw [List.getElem?_set_ne (fun z => ne z.symm), upF_ne ne]
      exact k.sl j s e
/-- the owned thing in slot i changes -/
theorem Kn.mut {α : Type} [Own α] {x : α} {v : V} {i : Nat} (k : Kn K B S0 S σ H F G) (hi : σ[i]? = some (some v)) (h1 : ∀ q, q ∉ F i → H' q = H q) (h2 : ∀ q ∈ F i, ∃ o, H' q = some o) (r : Own.own K S H' v (F i) x) :
    Kn K B S0 S σ H' F (G.set i (.ow x)) := by
  refine ⟨k.s0, fun q o e => ?_, fun q o e => ?_, k.clean, fun j q hq => ?_, k.dj, by rw [List.length_set]; exact k.len, fun j s e => ?_⟩
  · rw [h1 q fun z => by rw [(k.off i q z).1] at e; cases e]
    exact k.sub q o e
  · rw [h1 q fun z => by rw [(k.off i q z).2.1] at e; cases e]
    exact k.keep q o e
  · obtain ⟨a, b, o, c⟩ := k.off j q hq
    refine ⟨a, b, ?_⟩
    by_cases e : q ∈ F i
    · exact h2 q e
    · exact ⟨o, by rw [h1 q e]; exact c⟩
  · rcases set_get e with ⟨rfl, rfl⟩ | ⟨ne, e⟩
    · exact ⟨v, hi, r⟩
    · have z := k.sl j s e
      cases s with
      | no => exact True.intro
      | im y => exact z
      | ow y =>
        obtain ⟨u, a, b⟩ := z
        exact ⟨u, a, Own.mono (Same.refl _) (fun p hp => h1 p fun w => ne (k.dj j i p hp w)) b⟩
/-- knowledge is forgotten -/
inductive Le : List Sl → List Sl → Prop
  | n : Le [] []
  | k {s : Sl} {G G' : List Sl} : Le G G' → Le (s :: G) (s :: G')
  | d {s : Sl} {G G' : List Sl} : Le G G' → Le (.no :: G) (s :: G')
theorem Le.get : ∀ {G G' : List Sl} {i : Nat} {s : Sl}, Le G G' → G[i]? = some s → s = .no ∨ G'[i]? = some s
  | _, _, _, _, .n, e => by simp at e
  | _, _, 0, s, .k _, e => .inr e
  | _, _, 0, s, .d _, e => .inl (Option.some.inj (by simpa using e)).symm
  | _, _, i + 1, s, .k h, e => by simpa using Le.get (i := i) h (by simpa using e)
  | _, _, i + 1, s, .d h, e => by simpa using Le.get (i := i) h (by simpa using e)
theorem Le.length : ∀ {G G' : List Sl}, Le G G' → G.length = G'.length
  | _, _, .n => rfl
  | _, _, .k h => by rw [List.length_cons, List.length_cons, h.length]
  | _, _, .d h => by rw [List.length_cons, List.length_cons, h.length]
theorem Le.refl : ∀ (G : List Sl), Le G G
  | [] => .n
  | _ :: G => .k (Le.refl G)
theorem Kn.le {G' : List Sl} (k : Kn K B S0 S σ H F G) (h : Le G' G) : Kn K B S0 S σ H F G' :=
  ⟨k.s0, k.sub, k.keep, k.clean, k.off, k.dj, h.length.trans k.len, fun i s e => by
    rcases h.get e with rfl | e
    · exact True.intro
    · exact k.sl i s e⟩
theorem Kn.im {α : Type} [Py α] {x : α} {i : Nat} (k : Kn K B S0 S σ H F G) (h : G[i]? = some (.im x)) : ∃ v, σ[i]? = some (some v) ∧ Py.rep K S v x := k.sl i _ h
theorem Kn.ow {α : Type} [Own α] {x : α} {i : Nat} (k : Kn K B S0 S σ H F G) (h : G[i]? = some (.ow x)) : ∃ v, σ[i]? = some (some v) ∧ Own.own K S H v (F i) x := k.sl i _ h
/-- a list that was owned is settled -/
theorem Kn.relL {α : Type} [Py α] {x : List α} {i : Nat} (k : Kn K B S0 S σ H F G) (h : G[i]? = some (.ow x)) : ∃ S', Same S S' ∧ Kn K B S0 S' σ H (upF F i []) (G.set i (.im x)) := by
  obtain ⟨v, hv, p, vs, rfl, hp, h1, h2⟩ := k.ow h
  obtain ⟨hs, hb, _⟩ := k.off i p (by rw [hp]; exact List.mem_singleton.mpr rfl)
  have k1 : Kn K B S0 S σ H (upF F i []) (G.set i .no) := by
    refine ⟨k.s0, k.sub, k.keep, k.clean, fun j q hq => ?_, fun a b q ha hb' => ?_, by rw [List.length_set]; exact k.len, fun j s e => ?_⟩
    · by_cases e : j = i
      · rw [e, upF_self] at hq
        cases hq
      · rw [upF_ne e] at hq
        exact k.off j q hq
    · by_cases ea : a = i
      · rw [ea, upF_self] at ha
        cases ha
      · by_cases eb : b = i
        · rw [eb, upF_self] at hb'
          cases hb'
        · rw [upF_ne ea] at ha
          rw [upF_ne eb] at hb'
          exact k.dj a b q ha hb'
    · rcases set_get e with ⟨rfl, rfl⟩ | ⟨ne, e⟩
      · exact True.intro
      · rw [upF_ne ne]
        exact k.sl j s e
  have hf : ∀ j, p ∉ upF F i [] j := fun j hj => by
    by_cases e : j = i
    · rw [e, upF_self] at hj
      cases hj
    · rw [upF_ne e] at hj
      exact e (k.dj j i p hj (by rw [hp]; exact List.mem_singleton.mpr rfl))
  have k2 := k1.settle h1 hs hb hf
  refine ⟨upd S p (.lst vs), same_new hs, ?_⟩
  have hl : i < G.length := (List.getElem?_eq_some_iff.mp h).1
  have k3 := k2.set (i := i) (v := .ref p) (x := x) ⟨p, vs, rfl, upd_same, h2.mono (same_new hs)⟩ (by rw [List.getElem?_set_self hl]; rfl)
  have e1 : σ.set i (some (.ref p)) = σ := by
    apply List.ext_getElem?
    intro j
    by_cases e : i = j
    · subst e
      rw [List.getElem?_set_self (by rw [← k.len]; exact hl)]
      exact hv.symm
    · rw [List.getElem?_set_ne e]
  rw [e1, List.set_set] at k3
  exact k3
end
end GL

namespace GL
open PySem L2
/-! ### judgements -/
section
variable {α : Type}
/-- an expression: in the state G it gives x and leaves the state G' -/
def EvX [Py α] (K : Fg) (te : TE) (G : List Sl) (x : α) (G' : List Sl) : Prop :=
  ∀ B S0 S σ H F, Kn K B S0 S σ H F G → ∀ Q : VK, (∀ v S' H', Same S S' → Kn K B S0 S' σ H' F G' → Py.rep K S' v x → Q v H') → te σ H Q
/-- .. a new list -/
def EvL [Py α] (K : Fg) (te : TE) (G : List Sl) (xs : List α) (G' : List Sl) : Prop :=
  ∀ B S0 S σ H F, Kn K B S0 S σ H F G → ∀ Q : VK, (∀ p vs S' H', Same S S' → Kn K B S0 S' σ H' F G' → S' p = none → B p = none → (∀ j, p ∉ F j) → H' p = some (.lst vs) → RepL K S' vs xs → Q (.ref p) H') → te σ H Q
/-- .. a list that may be read -/
def Rdl [Py α] (K : Fg) (S : Hp) (σ : St) (G : List Sl) (v : V) (xs : List α) : Prop := Py.rep K S v xs ∨ ∃ i : Nat, σ[i]? = some (some v) ∧ G[i]? = some (Sl.ow xs)
def EvC [Py α] (K : Fg) (te : TE) (G : List Sl) (xs : List α) (G' : List Sl) : Prop :=
  ∀ B S0 S σ H F, Kn K B S0 S σ H F G → ∀ Q : VK, (∀ v S' H', Same S S' → Kn K B S0 S' σ H' F G' → Rdl K S' σ G' v xs → Q v H') → te σ H Q
/-- .. a dict that may be read -/
def Rdd [Py α] (K : Fg) (S : Hp) (σ : St) (G : List Sl) (v : V) (xs : Dct α) : Prop := Py.rep K S v xs ∨ ∃ i : Nat, σ[i]? = some (some v) ∧ G[i]? = some (Sl.ow xs)
def EvD [Py α] (K : Fg) (te : TE) (G : List Sl) (xs : Dct α) (G' : List Sl) : Prop :=
  ∀ B S0 S σ H F, Kn K B S0 S σ H F G → ∀ Q : VK, (∀ v S' H', Same S S' → Kn K B S0 S' σ H' F G' → Rdd K S' σ G' v xs → Q v H') → te σ H Q
/-- items of one kind -/
def EvLs [Py α] (K : Fg) (ta : TA) (G : List Sl) (xs : List α) (G' : List Sl) : Prop :=
  ∀ B S0 S σ H F, Kn K B S0 S σ H F G → ∀ Q : List V → Hp → Prop, (∀ vs S' H', Same S S' → Kn K B S0 S' σ H' F G' → RepL K S' vs xs → Q vs H') → ta σ H Q
/-- packed arguments -/
class PyA (α : Type) where
  rep : Fg → Hp → List V → α → Prop
  mono : ∀ {K : Fg} {H H' : Hp} {vs : List V} {x : α}, Same H H' → rep K H vs x → rep K H' vs x
  n : Nat
  len : ∀ {K : Fg} {H : Hp} {vs : List V} {x : α}, rep K H vs x → vs.length = n
instance : PyA Unit := ⟨fun _ _ vs _ => vs = [], fun _ h => h, 0, fun h => by rw [h]; rfl⟩
instance {β : Type} [Py α] [PyA β] : PyA (α × β) := ⟨fun K S vs x => ∃ v ws, vs = v :: ws ∧ Py.rep K S v x.1 ∧ PyA.rep K S ws x.2, fun e ⟨v, ws, h1, h2, h3⟩ => ⟨v, ws, h1, Py.mono e h2, PyA.mono e h3⟩,
  PyA.n β + 1, fun ⟨v, ws, h1, h2, h3⟩ => by rw [h1, List.length_cons, PyA.len h3]⟩
def EvA [PyA α] (K : Fg) (ta : TA) (G : List Sl) (x : α) (G' : List Sl) : Prop :=
  ∀ B S0 S σ H F, Kn K B S0 S σ H F G → ∀ Q : List V → Hp → Prop, (∀ vs S' H', Same S S' → Kn K B S0 S' σ H' F G' → PyA.rep K S' vs x → Q vs H') → ta σ H Q
end
def EvT (K : Fg) (tt : TT) (G : List Sl) (b : Bool) (G' : List Sl) : Prop :=
  ∀ B S0 S σ H F, Kn K B S0 S σ H F G → ∀ Q : Bool → Hp → Prop, (∀ S' H', Same S S' → Kn K B S0 S' σ H' F G' → Q b H') → tt σ H Q
/-- what is wanted at a place -/
def At (K : Fg) (B S0 : Hp) (P : St → Hp → Prop) (G : List Sl) : Prop := ∀ S σ H F, Kn K B S0 S σ H F G → P σ H
def RT {α : Type} [Py α] (K : Fg) (B S0 : Hp) (rt : VK) (x : α) (G : List Sl) : Prop := ∀ S σ H F v, Kn K B S0 S σ H F G → Py.rep K S v x → rt v H
/-- a later settled heap as the base -/
structure Reb (B S0 S1 : Hp) : Prop where
  s : Same S0 S1
  c : ∀ p o, B p = some o → S1 p = S0 p
theorem Reb.refl {B S0 : Hp} : Reb B S0 S0 := ⟨Same.refl _, fun _ _ _ => rfl⟩
theorem Reb.trans {B S0 S1 S2 : Hp} (a : Reb B S0 S1) (b : Reb B S1 S2) : Reb B S0 S2 := ⟨a.s.trans b.s, fun p o e => (b.c p o e).trans (a.c p o e)⟩
section
variable {K : Fg} {B S0 S1 S S' : Hp} {σ : St} {H H' : Hp} {F : Nat → List Addr} {G G' : List Sl}
theorem Kn.unreb (r : Reb B S0 S1) (k : Kn K B S1 S σ H F G) : Kn K B S0 S σ H F G :=
  ⟨r.s.trans k.s0, k.sub, k.keep, fun p o e => (k.clean p o e).trans (r.c p o e), k.off, k.dj, k.len, k.sl⟩
theorem Kn.reb (k : Kn K B S0 S σ H F G) : Kn K B S S σ H F G := ⟨Same.refl _, k.sub, k.keep, fun _ _ _ => rfl, k.off, k.dj, k.len, k.sl⟩
theorem Kn.rebOf (k : Kn K B S0 S σ H F G) : Reb B S0 S := ⟨k.s0, k.clean⟩
theorem At.reb {P : St → Hp → Prop} (r : Reb B S0 S1) (h : At K B S0 P G) : At K B S1 P G := fun S σ H F k => h S σ H F (k.unreb r)
theorem RT.reb {α : Type} [Py α] {rt : VK} {x : α} (r : Reb B S0 S1) (h : RT K B S0 rt x G) : RT K B S1 rt x G := fun S σ H F v k q => h S σ H F v (k.unreb r) q
/-- the state is one of G' -/
def Mid (K : Fg) (B S0 : Hp) (P : List Sl → Prop) (σ : St) (H : Hp) : Prop := ∃ S F G, Kn K B S0 S σ H F G ∧ P G
theorem at_mid {P : List Sl → Prop} (h : Le G' G) (p : P G') : At K B S0 (Mid K B S0 P) G := fun S σ H F k => ⟨S, F, G', k.le h, p⟩
theorem at_le {P : St → Hp → Prop} (h : Le G' G) (q : At K B S0 P G') : At K B S0 P G := fun S σ H F k => q S σ H F (k.le h)
/-- a list in slot i is owned no more -/
theorem at_relL {α : Type} [Py α] {x : List α} {i : Nat} {P : St → Hp → Prop} (h : G[i]? = some (.ow x)) (q : At K B S0 P (G.set i (.im x))) : At K B S0 P G := fun S σ H F k => by
  obtain ⟨S', _, k'⟩ := k.relL h
  exact q S' σ H _ k'

/-! ### reading lists and dicts -/
section
variable {α : Type} [Py α]
theorem Rdl.at {v : V} {xs : List α} (h : Rdl K S σ G v xs) (k : Kn K B S0 S σ H F G) : ∃ p vs, v = .ref p ∧ H p = some (.lst vs) ∧ RepL K S vs xs := by
  rcases h with ⟨p, vs, h1, h2, h3⟩ | ⟨i, h1, h2⟩
  · exact ⟨p, vs, h1, k.sub _ _ h2, h3⟩
  · obtain ⟨w, e, p, vs, q1, q2, q3, q4⟩ := k.ow h2
    rw [h1] at e
    cases e
    exact ⟨p, vs, q1, q3, q4⟩
theorem Rdl.mono {v : V} {xs : List α} (e : Same S S') (h : Rdl K S σ G v xs) : Rdl K S' σ G v xs := h.elim (fun h => .inl (Py.mono e h)) .inr
theorem Rdd.at {v : V} {xs : Dct α} (h : Rdd K S σ G v xs) (k : Kn K B S0 S σ H F G) : ∃ p kvs, v = .ref p ∧ H p = some (.dK kvs) ∧ RepD K S kvs xs.l := by
  rcases h with ⟨p, vs, h1, h2, h3⟩ | ⟨i, h1, h2⟩
  · exact ⟨p, vs, h1, k.sub _ _ h2, h3⟩
  · obtain ⟨w, e, p, vs, q1, q2, q3, q4⟩ := k.ow h2
    rw [h1] at e
    cases e
    exact ⟨p, vs, q1, q3, q4⟩
theorem Rdd.mono {v : V} {xs : Dct α} (e : Same S S') (h : Rdd K S σ G v xs) : Rdd K S' σ G v xs := h.elim (fun h => .inl (Py.mono e h)) .inr
end

/-! ### expressions -/
section
variable {α β γ : Type} [Py α] [Py β] [Py γ] {G1 G2 G3 : List Sl} {ta tb tc te : TE} {x : α} {y : β} {z : γ} {i j : Nat}
theorem ev_var (h : G[i]? = some (.im x)) : EvX K (tVar i) G x G := fun B S0 S σ H F k Q q => by
  obtain ⟨v, h1, h2⟩ := k.im h
  exact ⟨v, h1, q v S H (Same.refl _) k h2⟩
theorem ev_int {n : Int} : EvX K (tC (.int n)) G n G := fun B S0 S σ H F k Q q => q _ S H (Same.refl _) k rfl
theorem ev_bl {n : Bool} : EvX K (tC (.bl n)) G n G := fun B S0 S σ H F k Q q => q _ S H (Same.refl _) k rfl
theorem ev_str {n : Str} : EvX K (tC (.str n)) G n G := fun B S0 S σ H F k Q q => q _ S H (Same.refl _) k rfl
theorem ev_non : EvX K (tC .non) G () G := fun B S0 S σ H F k Q q => q _ S H (Same.refl _) k rfl
/-- None as one of None and things -/
theorem ev_none : EvX K (tC .non) G (none : Option α) G := fun B S0 S σ H F k Q q => q _ S H (Same.refl _) k rfl
theorem EvX.some (h : EvX K te G x G1) : EvX K te G (some x) G1 := fun B S0 S σ H F k Q q => h B S0 S σ H F k Q fun v S' H' e k' r => q v S' H' e k' r
theorem EvX.inl (h : EvX K te G x G1) : EvX K te G (Sum.inl x : Sum α β) G1 := fun B S0 S σ H F k Q q => h B S0 S σ H F k Q fun v S' H' e k' r => q v S' H' e k' r
theorem EvX.inr (h : EvX K te G y G1) : EvX K te G (Sum.inr y : Sum α β) G1 := fun B S0 S σ H F k Q q => h B S0 S σ H F k Q fun v S' H' e k' r => q v S' H' e k' r
theorem EvX.is {x' : α} (h : EvX K te G x G1) (e : x = x') : EvX K te G x' G1 := e ▸ h
theorem EvX.c {xs : List α} (h : EvX K te G xs G1) : EvC K te G xs G1 := fun B S0 S σ H F k Q q => h B S0 S σ H F k Q fun v S' H' e k' r => q v S' H' e k' (.inl r)
theorem EvX.d {xs : Dct α} (h : EvX K te G xs G1) : EvD K te G xs G1 := fun B S0 S σ H F k Q q => h B S0 S σ H F k Q fun v S' H' e k' r => q v S' H' e k' (.inl r)
theorem ec_own {xs : List α} (h : G[i]? = some (.ow xs)) : EvC K (tVar i) G xs G := fun B S0 S σ H F k Q q => by
  obtain ⟨v, h1, h2⟩ := k.ow h
  exact ⟨v, h1, q v S H (Same.refl _) k (.inr ⟨i, h1, h⟩)⟩
theorem ed_own {xs : Dct α} (h : G[i]? = some (.ow xs)) : EvD K (tVar i) G xs G := fun B S0 S σ H F k Q q => by
  obtain ⟨v, h1, h2⟩ := k.ow h
  exact ⟨v, h1, q v S H (Same.refl _) k (.inr ⟨i, h1, h⟩)⟩
theorem EvL.ev {xs : List α} (h : EvL K te G xs G1) : EvX K te G xs G1 := fun B S0 S σ H F k Q q => h B S0 S σ H F k Q fun p vs S' H' e k' hs hb hf hp r =>
  q _ (upd S' p (.lst vs)) H' (e.trans (same_new hs)) (k'.settle hp hs hb hf) ⟨p, vs, rfl, upd_same, r.mono (same_new hs)⟩
theorem EvL.c {xs : List α} (h : EvL K te G xs G1) : EvC K te G xs G1 := h.ev.c
theorem ev_i0 {f : Int → Int → Int} {a b : Int} (ha : EvX K ta G a G1) (hb : EvX K tb G1 b G2) : EvX K (tOp (rI0 fun i j => .int (f i j)) ta tb) G (f a b) G2 := fun B S0 S σ H F k Q q =>
  ha B S0 S σ H F k _ fun v S1 H1 e1 k1 r1 => hb B S0 S1 σ H1 F k1 _ fun u S2 H2 e2 k2 r2 => ⟨a, b, r1, r2, q _ S2 H2 (e1.trans e2) k2 rfl⟩
theorem ev_iC {C : Int → Int → Prop} {f : Int → Int → Int} {a b : Int} (ha : EvX K ta G a G1) (hb : EvX K tb G1 b G2) (hc : C a b) : EvX K (tOp (rI C fun i j => .int (f i j)) ta tb) G (f a b) G2 := fun B S0 S σ H F k Q q =>
  ha B S0 S σ H F k _ fun v S1 H1 e1 k1 r1 => hb B S0 S1 σ H1 F k1 _ fun u S2 H2 e2 k2 r2 => ⟨a, b, r1, r2, hc, q _ S2 H2 (e1.trans e2) k2 rfl⟩
theorem ev_b0 {f : Int → Int → Bool} {a b : Int} (ha : EvX K ta G a G1) (hb : EvX K tb G1 b G2) : EvX K (tOp (rI0 fun i j => .bl (f i j)) ta tb) G (f a b) G2 := fun B S0 S σ H F k Q q =>
  ha B S0 S σ H F k _ fun v S1 H1 e1 k1 r1 => hb B S0 S1 σ H1 F k1 _ fun u S2 H2 e2 k2 r2 => ⟨a, b, r1, r2, q _ S2 H2 (e1.trans e2) k2 rfl⟩
theorem ev_neg {a : Int} (ha : EvX K ta G a G1) : EvX K (tUn (rU fun i => .int (-i)) ta) G (-a) G1 := fun B S0 S σ H F k Q q =>
  ha B S0 S σ H F k _ fun v S1 H1 e1 k1 r1 => ⟨a, r1, q _ S1 H1 e1 k1 rfl⟩
/-- == and != of plain values -/
class Sc (α : Type) [Py α] where
  val : α → V
  of : ∀ {K : Fg} {S : Hp} {v : V} {x : α}, Py.rep K S v x → v = val x
  inj : ∀ {x y : α}, val x = val y → x = y
  sc : ∀ x y : α, scal (val x) (val y) = true
instance : Sc Int := ⟨V.int, fun h => h, fun h => V.int.inj h, fun _ _ => rfl⟩
instance : Sc Bool := ⟨V.bl, fun h => h, fun h => V.bl.inj h, fun _ _ => rfl⟩
instance : Sc Str := ⟨V.str, fun h => h, fun h => V.str.inj h, fun _ _ => rfl⟩
theorem Sc.dec {δ : Type} [Py δ] [Sc δ] [DecidableEq δ] (x y : δ) : decide (Sc.val x = Sc.val y) = decide (x = y) := by
  by_cases e : x = y
  · rw [e, decide_eq_true rfl, decide_eq_true rfl]
  · rw [decide_eq_false e, decide_eq_false fun q => e (Sc.inj q)]
theorem ev_eq {δ : Type} [Py δ] [Sc δ] [DecidableEq δ] {a b : δ} (ha : EvX K ta G a G1) (hb : EvX K tb G1 b G2) : EvX K (tOp rEq ta tb) G (decide (a = b)) G2 := fun B S0 S σ H F k Q q =>
  ha B S0 S σ H F k _ fun v S1 H1 e1 k1 r1 => hb B S0 S1 σ H1 F k1 _ fun u S2 H2 e2 k2 r2 => by
    rw [Sc.of r1, Sc.of r2]
    exact ⟨Sc.sc a b, q _ S2 H2 (e1.trans e2) k2 (by rw [Sc.dec]; rfl)⟩
theorem ev_ne {δ : Type} [Py δ] [Sc δ] [DecidableEq δ] {a b : δ} (ha : EvX K ta G a G1) (hb : EvX K tb G1 b G2) : EvX K (tOp rNe ta tb) G (!decide (a = b)) G2 := fun B S0 S σ H F k Q q =>
  ha B S0 S σ H F k _ fun v S1 H1 e1 k1 r1 => hb B S0 S1 σ H1 F k1 _ fun u S2 H2 e2 k2 r2 => by
    rw [Sc.of r1, Sc.of r2]
    exact ⟨Sc.sc a b, q _ S2 H2 (e1.trans e2) k2 (by rw [Sc.dec]; rfl)⟩
/-! tests -/
section
variable {t u : TT} {b c : Bool}
theorem et_test (h : EvX K te G b G1) : EvT K (tTest te) G b G1 := fun B S0 S σ H F k Q q => h B S0 S σ H F k _ fun v S1 H1 e1 k1 r1 => ⟨b, r1, q S1 H1 e1 k1⟩
theorem et_B (h : EvX K te G b G1) : EvT K (tB te) G b G1 := fun B S0 S σ H F k Q q => h B S0 S σ H F k _ fun v S1 H1 e1 k1 r1 => ⟨b, r1, q S1 H1 e1 k1⟩
theorem et_and (h1 : EvT K t G b G) (h2 : b = true → EvT K u G c G) : EvT K (tAnd t u) G (b && c) G := fun B S0 S σ H F k Q q => h1 B S0 S σ H F k _ fun S1 H1 e1 k1 => by
  cases b with
  | true =>
    show u σ H1 Q
    exact h2 rfl B S0 S1 σ H1 F k1 Q fun S2 H2 e2 k2 => q S2 H2 (e1.trans e2) k2
  | false =>
    show Q false H1
    exact q S1 H1 e1 k1
theorem et_or (h1 : EvT K t G b G) (h2 : b = false → EvT K u G c G) : EvT K (tOr t u) G (b || c) G := fun B S0 S σ H F k Q q => h1 B S0 S σ H F k _ fun S1 H1 e1 k1 => by
  cases b with
  | true =>
    show Q true H1
    exact q S1 H1 e1 k1
  | false =>
    show u σ H1 Q
    exact h2 rfl B S0 S1 σ H1 F k1 Q fun S2 H2 e2 k2 => q S2 H2 (e1.trans e2) k2
theorem et_not (h1 : EvT K t G b G1) : EvT K (tNot t) G (!b) G1 := fun B S0 S σ H F k Q q => h1 B S0 S σ H F k _ fun S1 H1 e1 k1 => q S1 H1 e1 k1
theorem et_yes : EvT K tYes G true G := fun B S0 S σ H F k Q q => q S H (Same.refl _) k
theorem ev_andV (h1 : EvX K ta G b G) (h2 : b = true → EvX K tb G c G) : EvX K (tAndV ta tb) G (b && c) G := fun B S0 S σ H F k Q q => h1 B S0 S σ H F k _ fun v S1 H1 e1 k1 r1 => ⟨b, r1, by
  cases b with
  | true =>
    show tb σ H1 Q
    exact h2 rfl B S0 S1 σ H1 F k1 Q fun w S2 H2 e2 k2 r2 => q w S2 H2 (e1.trans e2) k2 r2
  | false =>
    show Q (.bl false) H1
    exact q _ S1 H1 e1 k1 rfl⟩
theorem ev_orV (h1 : EvX K ta G b G) (h2 : b = false → EvX K tb G c G) : EvX K (tOrV ta tb) G (b || c) G := fun B S0 S σ H F k Q q => h1 B S0 S σ H F k _ fun v S1 H1 e1 k1 r1 => ⟨b, r1, by
  cases b with
  | true =>
    show Q (.bl true) H1
    exact q _ S1 H1 e1 k1 rfl
  | false =>
    show tb σ H1 Q
    exact h2 rfl B S0 S1 σ H1 F k1 Q fun w S2 H2 e2 k2 r2 => q w S2 H2 (e1.trans e2) k2 r2⟩
theorem ev_notV (h1 : EvX K ta G b G1) : EvX K (tNotV ta) G (!b) G1 := fun B S0 S σ H F k Q q => h1 B S0 S σ H F k _ fun v S1 H1 e1 k1 r1 => ⟨b, r1, q _ S1 H1 e1 k1 rfl⟩
theorem ev_if {x' : α} (h : EvT K t G b G1) (h1 : b = true → EvX K ta G1 x G2) (h2 : b = false → EvX K tb G1 x' G2) : EvX K (tIf t ta tb) G (if b = true then x else x') G2 := fun B S0 S σ H F k Q q => h B S0 S σ H F k _ fun S1 H1 e1 k1 => by
  cases b with
  | true =>
    show ta σ H1 Q
    exact h1 rfl B S0 S1 σ H1 F k1 Q fun w S2 H2 e2 k2 r2 => q w S2 H2 (e1.trans e2) k2 r2
  | false =>
    show tb σ H1 Q
    exact h2 rfl B S0 S1 σ H1 F k1 Q fun w S2 H2 e2 k2 r2 => q w S2 H2 (e1.trans e2) k2 r2
end
/-! displays -/
theorem els_nil : EvLs K tNil G ([] : List α) G := fun B S0 S σ H F k Q q => q [] S H (Same.refl _) k True.intro
theorem els_cons {tr : TA} {xs : List α} (h : EvX K ta G x G1) (hr : EvLs K tr G1 xs G2) : EvLs K (tCons ta tr) G (x :: xs) G2 := fun B S0 S σ H F k Q q =>
  h B S0 S σ H F k _ fun v S1 H1 e1 k1 r1 => hr B S0 S1 σ H1 F k1 _ fun vs S2 H2 e2 k2 r2 => q (v :: vs) S2 H2 (e1.trans e2) k2 ⟨Py.mono e2 r1, r2⟩
theorem ea_nil : EvA K tNil G () G := fun B S0 S σ H F k Q q => q [] S H (Same.refl _) k rfl
theorem ea_cons {δ : Type} [PyA δ] {tr : TA} {xs : δ} (h : EvX K ta G x G1) (hr : EvA K tr G1 xs G2) : EvA K (tCons ta tr) G (x, xs) G2 := fun B S0 S σ H F k Q q =>
  h B S0 S σ H F k _ fun v S1 H1 e1 k1 r1 => hr B S0 S1 σ H1 F k1 _ fun vs S2 H2 e2 k2 r2 => q (v :: vs) S2 H2 (e1.trans e2) k2 ⟨v, vs, rfl, Py.mono e2 r1, r2⟩
theorem el_lst {t : TA} {xs : List α} (h : EvLs K t G xs G1) (hl : xs.length ≤ 1000) : EvL K (tLst t) G xs G1 := fun B S0 S σ H F k Q q =>
  h B S0 S σ H F k _ fun vs S1 H1 e1 k1 r1 => ⟨by rw [r1.len]; exact Nat.le_trans hl (by decide), fun p hp => by
    obtain ⟨a, b, c⟩ := k1.free hp
    exact q p vs S1 _ e1 (k1.raw hp) a b c upd_same r1⟩
theorem ev_tp {t : TA} {xs : List α} (h : EvLs K t G xs G1) (hl : xs.length ≤ 1000) : EvX K (tTup t) G (Tp.mk xs) G1 := fun B S0 S σ H F k Q q =>
  h B S0 S σ H F k _ fun vs S1 H1 e1 k1 r1 => ⟨by rw [r1.len]; exact Nat.le_trans hl (by decide), fun p hp =>
    q (.ref p) _ _ (e1.trans (same_new (k1.free hp).1)) (k1.new hp) ⟨p, vs, rfl, SqT.of upd_same, r1.mono (same_new (k1.free hp).1)⟩⟩
theorem ev_pair (ha : EvX K ta G x G1) (hb : EvX K tb G1 y G2) : EvX K (tTup (tCons ta (tCons tb tNil))) G (x, y) G2 := fun B S0 S σ H F k Q q =>
  ha B S0 S σ H F k _ fun v S1 H1 e1 k1 r1 => hb B S0 S1 σ H1 F k1 _ fun u S2 H2 e2 k2 r2 => ⟨by show 2 ≤ sizeLine; decide, fun p hp => by
    have e3 := same_new (o := .tup [v, u]) (k2.free hp).1
    exact q (.ref p) _ _ ((e1.trans e2).trans e3) (k2.new hp) ⟨p, v, u, rfl, SqT.of upd_same, Py.mono (e2.trans e3) r1, Py.mono e3 r2⟩⟩
theorem ev_t3 (ha : EvX K ta G x G1) (hb : EvX K tb G1 y G2) (hc : EvX K tc G2 z G3) : EvX K (tTup (tCons ta (tCons tb (tCons tc tNil)))) G (T3.mk x y z) G3 := fun B S0 S σ H F k Q q =>
  ha B S0 S σ H F k _ fun v S1 H1 e1 k1 r1 => hb B S0 S1 σ H1 F k1 _ fun u S2 H2 e2 k2 r2 => hc B S0 S2 σ H2 F k2 _ fun w S3 H3 e3 k3 r3 => ⟨by show 3 ≤ sizeLine; decide, fun p hp => by
    have e4 := same_new (o := .tup [v, u, w]) (k3.free hp).1
    exact q (.ref p) _ _ (((e1.trans e2).trans e3).trans e4) (k3.new hp) ⟨p, v, u, w, rfl, SqT.of upd_same, Py.mono ((e2.trans e3).trans e4) r1, Py.mono (e3.trans e4) r2, Py.mono e4 r3⟩⟩
/-! items -/
def ix {δ : Type} [Inhabited δ] (xs : List δ) (i : Int) : δ := xs.getD i.toNat default
theorem ix_at {δ : Type} [Inhabited δ] {xs : List δ} {i : Int} (h0 : 0 ≤ i) (h1 : i < xs.length) : xs[i.toNat]? = some (ix xs i) := by
  unfold ix
  rw [List.getD_eq_getElem?_getD]
  rw [List.getElem?_eq_getElem (by omega)]
  rfl
theorem atI_of {vs : List V} {i : Int} {v : V} (h0 : 0 ≤ i) (h : vs[i.toNat]? = some v) : atI vs i = some v := by
  have e : i = ((i.toNat : Nat) : Int) := by omega
  rw [e]
  exact atI_nat h
/-- a settled list, the place by anything -/
theorem ev_ix [Inhabited α] {xs : List α} {n : Int} (ha : EvX K ta G xs G1) (hb : EvX K tb G1 n G2) (h : 0 ≤ n ∧ n < xs.length) : EvX K (tOp (rIxL K) ta tb) G (ix xs n) G2 := fun B S0 S σ H F k Q q =>
  ha B S0 S σ H F k _ fun v S1 H1 e1 k1 r1 => hb B S0 S1 σ H1 F k1 _ fun u S2 H2 e2 k2 r2 => by
    obtain ⟨p, vs, rfl, hp, hr⟩ := Py.mono e2 r1
    obtain ⟨w, h1, h2⟩ := hr.get (ix_at h.1 h.2)
    exact ⟨p, vs, n, w, rfl, r2, SqL.of (k2.sub _ _ hp), atI_of h.1 h1, q w S2 H2 (e1.trans e2) k2 h2⟩
theorem ev_ixC [Inhabited α] {xs : List α} {n : Int} (ha : EvC K ta G xs G1) (hb : EvX K tb G1 n G1) (h : 0 ≤ n ∧ n < xs.length) : EvX K (tOp (rIxL K) ta tb) G (ix xs n) G1 := fun B S0 S σ H F k Q q =>
  ha B S0 S σ H F k _ fun v S1 H1 e1 k1 r1 => hb B S0 S1 σ H1 F k1 _ fun u S2 H2 e2 k2 r2 => by
    obtain ⟨p, vs, rfl, hp, hr⟩ := (r1.mono e2).at k2
    obtain ⟨w, h1, h2⟩ := hr.get (ix_at h.1 h.2)
    exact ⟨p, vs, n, w, rfl, r2, SqL.of hp, atI_of h.1 h1, q w S2 H2 (e1.trans e2) k2 h2⟩
theorem ev_ixT [Inhabited α] {xs : Tp α} {n : Int} (ha : EvX K ta G xs G1) (hb : EvX K tb G1 n G2) (h : 0 ≤ n ∧ n < xs.l.length) : EvX K (tOp (rIxT K) ta tb) G (ix xs.l n) G2 := fun B S0 S σ H F k Q q =>
  ha B S0 S σ H F k _ fun v S1 H1 e1 k1 r1 => hb B S0 S1 σ H1 F k1 _ fun u S2 H2 e2 k2 r2 => by
    obtain ⟨p, vs, rfl, hp, hr⟩ := Py.mono e2 r1
    obtain ⟨w, h1, h2⟩ := hr.get (ix_at h.1 h.2)
    exact ⟨p, vs, n, w, rfl, r2, seqT k2.sub hp, atI_of h.1 h1, q w S2 H2 (e1.trans e2) k2 h2⟩
theorem ev_fst {xy : α × β} (ha : EvX K ta G xy G1) : EvX K (tOp (rIxT K) ta (tC (.int 0))) G xy.1 G1 := fun B S0 S σ H F k Q q =>
  ha B S0 S σ H F k _ fun v S1 H1 e1 k1 r1 => by
    obtain ⟨p, a, b, rfl, hp, h1, h2⟩ := r1
    exact ⟨p, _, 0, a, rfl, rfl, seqT k1.sub hp, atI_nat (j := 0) rfl, q a S1 H1 e1 k1 h1⟩
theorem ev_snd {xy : α × β} (ha : EvX K ta G xy G1) : EvX K (tOp (rIxT K) ta (tC (.int 1))) G xy.2 G1 := fun B S0 S σ H F k Q q =>
  ha B S0 S σ H F k _ fun v S1 H1 e1 k1 r1 => by
    obtain ⟨p, a, b, rfl, hp, h1, h2⟩ := r1
    exact ⟨p, _, 1, b, rfl, rfl, seqT k1.sub hp, atI_nat (j := 1) rfl, q b S1 H1 e1 k1 h2⟩
theorem ev_3a {w : T3 α β γ} (ha : EvX K ta G w G1) : EvX K (tOp (rIxT K) ta (tC (.int 0))) G w.a G1 := fun B S0 S σ H F k Q q =>
  ha B S0 S σ H F k _ fun v S1 H1 e1 k1 r1 => by
    obtain ⟨p, a, b, c, rfl, hp, h1, h2, h3⟩ := r1
    exact ⟨p, _, 0, a, rfl, rfl, seqT k1.sub hp, atI_nat (j := 0) rfl, q a S1 H1 e1 k1 h1⟩
theorem ev_3b {w : T3 α β γ} (ha : EvX K ta G w G1) : EvX K (tOp (rIxT K) ta (tC (.int 1))) G w.b G1 := fun B S0 S σ H F k Q q =>
  ha B S0 S σ H F k _ fun v S1 H1 e1 k1 r1 => by
    obtain ⟨p, a, b, c, rfl, hp, h1, h2, h3⟩ := r1
    exact ⟨p, _, 1, b, rfl, rfl, seqT k1.sub hp, atI_nat (j := 1) rfl, q b S1 H1 e1 k1 h2⟩
theorem ev_3c {w : T3 α β γ} (ha : EvX K ta G w G1) : EvX K (tOp (rIxT K) ta (tC (.int 2))) G w.c G1 := fun B S0 S σ H F k Q q =>
  ha B S0 S σ H F k _ fun v S1 H1 e1 k1 r1 => by
    obtain ⟨p, a, b, c, rfl, hp, h1, h2, h3⟩ := r1
    exact ⟨p, _, 2, c, rfl, rfl, seqT k1.sub hp, atI_nat (j := 2) rfl, q c S1 H1 e1 k1 h3⟩
/-! len, min, max -/
def rLenS (K : Fg) : List V → Hp → VK → Prop := fun xs H Q => ∃ p ys, xs = [.ref p] ∧ (SqL K H p ys ∨ SqT K H p ys) ∧ Q (.int ys.length) H
theorem call_lenG {X : Cx} : CallR X (.builtin "len") (rLenS X.K) := call_len_seq
theorem ev_len {xs : List α} (ha : EvC K ta G xs G1) : EvX K (tCB (rLenS K) (tCons ta tNil)) G (xs.length : Int) G1 := fun B S0 S σ H F k Q q =>
  ha B S0 S σ H F k _ fun v S1 H1 e1 k1 r1 => by
    obtain ⟨p, vs, rfl, hp, hr⟩ := r1.at k1
    exact ⟨p, vs, rfl, .inl (SqL.of hp), q _ S1 H1 e1 k1 (by rw [hr.len]; rfl)⟩
theorem ev_lenT {xs : Tp α} (ha : EvX K ta G xs G1) : EvX K (tCB (rLenS K) (tCons ta tNil)) G (xs.l.length : Int) G1 := fun B S0 S σ H F k Q q =>
  ha B S0 S σ H F k _ fun v S1 H1 e1 k1 r1 => by
    obtain ⟨p, vs, rfl, hp, hr⟩ := r1
    exact ⟨p, vs, rfl, .inr (seqT k1.sub hp), q _ S1 H1 e1 k1 (by rw [hr.len]; rfl)⟩
theorem ev_lenS {xs : Scr} (ha : EvX K ta G xs G1) : EvX K (tCB (rLenS K) (tCons ta tNil)) G (xs.l.length : Int) G1 := fun B S0 S σ H F k Q q =>
  ha B S0 S σ H F k _ fun v S1 H1 e1 k1 r1 => by
    obtain ⟨p, rfl, hp⟩ := r1
    exact ⟨p, _, rfl, .inl (k1.sub.seq hp), q _ S1 H1 e1 k1 (by rw [List.length_map]; rfl)⟩
def rMin2 : List V → Hp → VK → Prop := fun xs H Q => ∃ i j, xs = [.int i, .int j] ∧ Q (.int (if j < i then j else i)) H
def rMax2 : List V → Hp → VK → Prop := fun xs H Q => ∃ i j, xs = [.int i, .int j] ∧ Q (.int (if j > i then j else i)) H
theorem call_minG {X : Cx} (hc : X.calm = true) : CallR X (.builtin "min") rMin2 := call_min2 hc
theorem call_maxG {X : Cx} (hc : X.calm = true) : CallR X (.builtin "max") rMax2 := call_max2 hc
theorem ev_min {a b : Int} (ha : EvX K ta G a G1) (hb : EvX K tb G1 b G2) : EvX K (tCB rMin2 (tCons ta (tCons tb tNil))) G (min a b) G2 := fun B S0 S σ H F k Q q =>
  ha B S0 S σ H F k _ fun v S1 H1 e1 k1 r1 => hb B S0 S1 σ H1 F k1 _ fun u S2 H2 e2 k2 r2 => ⟨a, b, by rw [show v = .int a from r1, show u = .int b from r2], q _ S2 H2 (e1.trans e2) k2 (by
    show V.int _ = V.int _
    congr 1
    rw [Int.min_def]
    split <;> split <;> omega)⟩
theorem ev_max {a b : Int} (ha : EvX K ta G a G1) (hb : EvX K tb G1 b G2) : EvX K (tCB rMax2 (tCons ta (tCons tb tNil))) G (max a b) G2 := fun B S0 S σ H F k Q q =>
  ha B S0 S σ H F k _ fun v S1 H1 e1 k1 r1 => hb B S0 S1 σ H1 F k1 _ fun u S2 H2 e2 k2 r2 => ⟨a, b, by rw [show v = .int a from r1, show u = .int b from r2], q _ S2 H2 (e1.trans e2) k2 (by
    show V.int _ = V.int _
    congr 1
    rw [Int.max_def]
    split <;> split <;> omega)⟩
def rInt1 : List V → Hp → VK → Prop := fun xs H Q => (∃ i, xs = [.int i] ∧ Q (.int i) H) ∨ ∃ k, xs = [.bl k] ∧ Q (.int (if k then 1 else 0)) H
theorem call_intG {X : Cx} : CallR X (.type "int") rInt1 := call_int1
theorem ev_intB {b : Bool} (ha : EvX K ta G b G1) : EvX K (tCB rInt1 (tCons ta tNil)) G (if b then (1 : Int) else 0) G1 := fun B S0 S σ H F k Q q =>
  ha B S0 S σ H F k _ fun v S1 H1 e1 k1 r1 => .inr ⟨b, by rw [show v = .bl b from r1], q _ S1 H1 e1 k1 rfl⟩
/-! dicts -/
theorem el_dnew : ∀ {B S0 S : Hp} {σ : St} {H : Hp} {F : Nat → List Addr} {Q : VK}, Kn K B S0 S σ H F G → (∀ p H', Kn K B S0 S σ H' F G → S p = none → B p = none → (∀ j, p ∉ F j) → H' p = some (.dK []) → Q (.ref p) H') → tDNewK σ H Q := fun k q p hp => by
  obtain ⟨a, b, c⟩ := k.free hp
  exact q p _ (k.raw hp) a b c upd_same
theorem RepD.get {δ : Type} [Py δ] {K : Fg} {S : Hp} {kvs : List (Key × V)} {d : Dct δ} {k : Int} (h : RepD K S kvs d.l) : (∀ x, d.get? k = some x → ∃ v, valV kvs (Sum.inl k) = some v ∧ Py.rep K S v x) ∧ (d.get? k = none → valV kvs (Sum.inl k) = none) := by
  have q := h.val k
  unfold Dct.get?
  constructor
  · intro x e
    rw [e] at q
    exact q
  · intro e
    rw [e] at q
    exact q
theorem RepD.isSome {δ : Type} [Py δ] {K : Fg} {S : Hp} {kvs : List (Key × V)} {d : Dct δ} (k : Int) (h : RepD K S kvs d.l) : (valV kvs (Sum.inl k)).isSome = (d.get? k).isSome := by
  obtain ⟨h1, h2⟩ := h.get (k := k)
  cases e : d.get? k with
  | none => rw [h2 e]; rfl
  | some x =>
    obtain ⟨v, h3, _⟩ := h1 x e
    rw [h3]
    rfl
theorem dgetI {H : Hp} {a : Addr} {kvs : List (Key × V)} {k : Int} (e : H a = some (.dK kvs)) : DGet H a (.int k) (valV kvs (Sum.inl k)) := DGet.k (k := Sum.inl k) e
theorem ev_din {d : Dct α} {n : Int} (hk : EvX K ta G n G1) (hd : EvD K tb G1 d G2) : EvX K (tDIn ta tb) G (d.get? n).isSome G2 := fun B S0 S σ H F k Q q =>
  hk B S0 S σ H F k _ fun v S1 H1 e1 k1 r1 => hd B S0 S1 σ H1 F k1 _ fun u S2 H2 e2 k2 r2 => by
    obtain ⟨p, kvs, rfl, hp, hr⟩ := r2.at k2
    rw [show v = .int n from r1]
    exact ⟨p, _, rfl, dgetI hp, q _ S2 H2 (e1.trans e2) k2 (by rw [hr.isSome]; rfl)⟩
theorem ev_dnotin {d : Dct α} {n : Int} (hk : EvX K ta G n G1) (hd : EvD K tb G1 d G2) : EvX K (tDNotIn ta tb) G (!(d.get? n).isSome) G2 := fun B S0 S σ H F k Q q =>
  hk B S0 S σ H F k _ fun v S1 H1 e1 k1 r1 => hd B S0 S1 σ H1 F k1 _ fun u S2 H2 e2 k2 r2 => by
    obtain ⟨p, kvs, rfl, hp, hr⟩ := r2.at k2
    rw [show v = .int n from r1]
    exact ⟨p, _, rfl, dgetI hp, q _ S2 H2 (e1.trans e2) k2 (by rw [hr.isSome]; rfl)⟩
def dix {δ : Type} [Inhabited δ] (d : Dct δ) (k : Int) : δ := (d.get? k).getD default
theorem ev_dget [Inhabited α] {d : Dct α} {n : Int} (hd : EvD K ta G d G1) (hk : EvX K tb G1 n G1) (h : (d.get? n).isSome = true) : EvX K (tDGet ta tb) G (dix d n) G1 := fun B S0 S σ H F k Q q =>
  hd B S0 S σ H F k _ fun v S1 H1 e1 k1 r1 => hk B S0 S1 σ H1 F k1 _ fun u S2 H2 e2 k2 r2 => by
    obtain ⟨p, kvs, rfl, hp, hr⟩ := (r1.mono e2).at k2
    rw [show u = .int n from r2]
    cases e : d.get? n with
    | none => rw [e] at h; cases h
    | some x' =>
      obtain ⟨w, h1, h2⟩ := (hr.get (k := n)).1 x' e
      have g := dgetI (k := n) hp
      rw [h1] at g
      refine ⟨p, w, rfl, g, q w S2 H2 (e1.trans e2) k2 ?_⟩
      unfold dix
      rw [e]
      exact h2
theorem ev_dget2 {d : Dct α} {n : Int} (hd : EvD K ta G d G1) (hk : EvX K tb G1 n G1) (hx : EvX K tc G1 x G1) : EvX K (tDGet2 ta tb tc) G ((d.get? n).getD x) G1 := fun B S0 S σ H F k Q q =>
  hd B S0 S σ H F k _ fun v S1 H1 e1 k1 r1 => by
    obtain ⟨p, kvs, rfl, hp, hr⟩ := r1.at k1
    refine ⟨p, rfl, .inl ⟨kvs, .inl hp⟩, hk B S0 S1 σ H1 F k1 _ fun u S2 H2 e2 k2 r2 => hx B S0 S2 σ H2 F k2 _ fun w S3 H3 e3 k3 r3 => ?_⟩
    obtain ⟨p', kvs', ep, hp', hr'⟩ := (r1.mono (e2.trans e3)).at k3
    cases ep
    rw [show u = .int n from r2]
    refine ⟨_, dgetI hp', q _ S3 H3 ((e1.trans e2).trans e3) k3 ?_⟩
    obtain ⟨h1, h2⟩ := hr'.get (k := n)
    cases e : d.get? n with
    | none => rw [h2 e]; exact r3
    | some x' =>
      obtain ⟨w', h3, h4⟩ := h1 x' e
      rw [h3]
      exact h4
end

/-! ### calls -/
/-- the promise of a def: from packed arguments its value; nothing else changes -/
def spF {α β : Type} [PyA α] [Py β] (K : Fg) (f : α → β) (pre : α → Prop) : Sp := fun vs H Q _ => ∃ (S : Hp) (a : α), Same S H ∧ PyA.rep K S vs a ∧ pre a ∧ ∀ v S' H', Grow S H S' H' → Py.rep K S' v (f a) → Q v H'
/-- .. a new list -/
def spL {α β : Type} [PyA α] [Py β] (K : Fg) (f : α → List β) (pre : α → Prop) : Sp := fun vs H Q _ => ∃ (S : Hp) (a : α), Same S H ∧ PyA.rep K S vs a ∧ pre a ∧
  ∀ p us S' H', Grow S H S' H' → H p = none → S' p = none → H' p = some (.lst us) → RepL K S' us (f a) → Q (.ref p) H'
section
variable {α β : Type} [PyA α] [Py β] {G1 : List Sl} {f : α → β} {pre : α → Prop} {a : α} {t : TA} {E : XK}
theorem ev_call (ha : EvA K t G a G1) (hp : pre a) : EvX K (tCall (spF K f pre) [] E t) G (f a) G1 := fun B S0 S σ H F k Q q =>
  ha B S0 S σ H F k _ fun vs S1 H1 e1 k1 r1 => by
    rw [List.append_nil]
    exact ⟨S1, a, k1.sub, r1, hp, fun v S2 H2 g r2 => q v S2 H2 (e1.trans g.s) (k1.grow g) r2⟩
theorem el_call {f : α → List β} (ha : EvA K t G a G1) (hp : pre a) : EvL K (tCall (spL K f pre) [] E t) G (f a) G1 := fun B S0 S σ H F k Q q =>
  ha B S0 S σ H F k _ fun vs S1 H1 e1 k1 r1 => by
    rw [List.append_nil]
    refine ⟨S1, a, k1.sub, r1, hp, fun p us S2 H2 g hp hs h2 r2 => ?_⟩
    obtain ⟨_, b, c⟩ := k1.free hp
    exact q p us S2 H2 (e1.trans g.s) (k1.grow g) hs b c h2 r2
end
end
end GL

namespace GL
open PySem L2
/-! ### targets -/
theorem wipe_get (σ : St) : ∀ (vs : List Nat) (k : Nat), (wipe σ vs)[k]? = if k ∈ vs ∧ k < σ.length then some none else σ[k]?
  | [], k => by simp [wipe]
  | v :: vs, k => by
    unfold wipe
    have ih := wipe_get σ vs k
    have hl := wipe_length σ vs
    by_cases e : v = k
    · subst e
      by_cases h : v < σ.length
      · rw [List.getElem?_set_self (by rw [hl]; exact h), if_pos ⟨List.mem_cons_self, h⟩]
      · rw [List.getElem?_eq_none (by rw [List.length_set, hl]; omega), if_neg (fun q => h q.2), List.getElem?_eq_none (by omega)]
    · rw [List.getElem?_set_ne e, ih]
      have : (k ∈ v :: vs) ↔ k ∈ vs := by
        simp only [List.mem_cons]
        exact ⟨fun q => q.resolve_left fun z => e z.symm, .inr⟩
      simp only [this]
theorem wipe_set {σ : St} {vs : List Nat} {j : Nat} {y : Option V} (h : j ∈ vs) : wipe (σ.set j y) vs = wipe σ vs := by
  apply List.ext_getElem?
  intro k
  rw [wipe_get, wipe_get, List.length_set]
  by_cases e : k ∈ vs ∧ k < σ.length
  · rw [if_pos e, if_pos e]
  · rw [if_neg e, if_neg e]
    by_cases ej : j = k
    · subst ej
      have : ¬ j < σ.length := fun q => e ⟨h, q⟩
      rw [List.getElem?_eq_none (by rw [List.length_set]; omega), List.getElem?_eq_none (by omega)]
    · rw [List.getElem?_set_ne ej]
def wipeG (G : List Sl) : List Nat → List Sl
  | [] => G
  | v :: vs => (wipeG G vs).set v .no
section
variable {K : Fg} {B S0 S1 S S' : Hp} {σ : St} {H H' : Hp} {F : Nat → List Addr} {G G' : List Sl}
theorem Kn.wipe (k : Kn K B S0 S σ H F G) : ∀ vs : List Nat, Kn K B S0 S (wipe σ vs) H F (wipeG G vs)
  | [] => k
  | v :: vs => (Kn.wipe k vs).setNo
/-- the frame's heap with one object more -/
theorem Kn.pin {p : Addr} {o : HO} (k : Kn K B S0 S σ H F G) (h : H p = some o) (hs : S p = none) (hf : ∀ j, p ∉ F j) : Kn K (upd B p o) S0 S σ H F G := by
  refine ⟨k.s0, k.sub, fun b x q => ?_, fun b x q => ?_, fun i b hb => ?_, k.dj, k.len, k.sl⟩
  · by_cases e : b = p
    · subst e
      rw [upd_same] at q
      rw [h, q]
    · rw [upd_ne e] at q
      exact k.keep b x q
  · by_cases e : b = p
    · subst e
      rw [hs, k.s0.free hs]
    · rw [upd_ne e] at q
      exact k.clean b x q
  · obtain ⟨h1, h2, h3⟩ := k.off i b hb
    have ne : b ≠ p := fun z => hf i (z ▸ hb)
    exact ⟨h1, by rw [upd_ne ne]; exact h2, h3⟩
theorem Kn.unpin {p : Addr} {o : HO} (k : Kn K (upd B p o) S0 S σ H F G) (hb : B p = none) : Kn K B S0 S σ H F G := by
  have e : Same B (upd B p o) := same_new hb
  refine ⟨k.s0, k.sub, e.trans k.keep, fun b x q => k.clean b x (e b x q), fun i b hb' => ?_, k.dj, k.len, k.sl⟩
  obtain ⟨h1, h2, h3⟩ := k.off i b hb'
  exact ⟨h1, e.free h2, h3⟩
/-- an object that is nobody's changes -/
theorem Kn.poke {p : Addr} {o : HO} (k : Kn K B S0 S σ H F G) (hs : S p = none) (hb : B p = none) (hf : ∀ j, p ∉ F j) : Kn K B S0 S σ (upd H p o) F G := by
  refine ⟨k.s0, fun b x q => ?_, fun b x q => ?_, k.clean, fun i b hb' => ?_, k.dj, k.len, fun i s q => ?_⟩
  · rw [upd_ne (ne_of_none q hs)]
    exact k.sub b x q
  · rw [upd_ne (ne_of_none q hb)]
    exact k.keep b x q
  · obtain ⟨h1, h2, w, h3⟩ := k.off i b hb'
    have ne : b ≠ p := fun z => hf i (z ▸ hb')
    exact ⟨h1, h2, w, by rw [upd_ne ne]; exact h3⟩
  · have z := k.sl i s q
    cases s with
    | no => exact True.intro
    | im x => exact z
    | ow x =>
      obtain ⟨v, h1, h2⟩ := z
      exact ⟨v, h1, Own.mono (Same.refl _) (fun b hb' => upd_ne fun z => hf i (z ▸ hb')) h2⟩

def TgG {α : Type} [Py α] (K : Fg) (g : TG) (x : α) (G G' : List Sl) (ts : List Nat) : Prop := (∀ j : Nat, j ∉ ts → G'[j]? = G[j]?) ∧
  ∀ B S0 S σ H F v, Kn K B S0 S σ H F G → Py.rep K S v x → ∀ Q : St → Hp → Prop, (∀ σ', Kn K B S0 S σ' H F G' → (∀ j : Nat, j ∉ ts → σ'[j]? = σ[j]?) → (∀ vs : List Nat, (∀ t ∈ ts, t ∈ vs) → L2.wipe σ' vs = L2.wipe σ vs) → Q σ' H) → g v σ H Q
section
variable {α β γ : Type} [Py α] [Py β] [Py γ] {x : α} {y : β} {z : γ} {g1 g2 g3 : TG} {G1 G2 G3 : List Sl} {t1 t2 t3 : List Nat}
theorem ne_of_notIn {j k : Nat} (h : k ∉ [j]) : j ≠ k := fun e => h (List.mem_singleton.mpr e.symm)
theorem tg_name {j : Nat} (hj : G[j]?.isSome = true) : TgG K (gName j) x G (G.set j (.im x)) [j] := ⟨fun k hk => List.getElem?_set_ne (ne_of_notIn hk), fun B S0 S σ H F v k r Q q =>
  q _ (k.set r hj) (fun k hk => List.getElem?_set_ne (ne_of_notIn hk)) fun vs hv => wipe_set (hv j (List.mem_singleton.mpr rfl))⟩
theorem notL {t1 t2 : List Nat} {j : Nat} (h : j ∉ t1 ++ t2) : j ∉ t1 ∧ j ∉ t2 := ⟨fun q => h (List.mem_append_left _ q), fun q => h (List.mem_append_right _ q)⟩
theorem tg_pair {xy : α × β} (h1 : TgG K g1 xy.1 G G1 t1) (h2 : TgG K g2 xy.2 G1 G2 t2) : TgG K (gTup K 2 (gCons g1 (gCons g2 gNil))) xy G G2 (t1 ++ t2) := ⟨fun j hj => (h2.1 j (notL hj).2).trans (h1.1 j (notL hj).1), fun B S0 S σ H F v k r Q q => by
  obtain ⟨p, a, b, rfl, hp, ra, rb⟩ := r
  refine ⟨p, [a, b], rfl, seqT k.sub hp, rfl, a, [b], rfl, h1.2 B S0 S σ H F a k ra _ fun σ1 k1 o1 w1 => ⟨b, [], rfl, h2.2 B S0 S σ1 H F b k1 rb _ fun σ2 k2 o2 w2 => ⟨rfl, q σ2 k2 (fun j hj => (o2 j (notL hj).2).trans (o1 j (notL hj).1)) fun vs hv => ?_⟩⟩⟩
  rw [w2 vs fun t ht => hv t (List.mem_append_right _ ht), w1 vs fun t ht => hv t (List.mem_append_left _ ht)]⟩
theorem tg_t3 {xy : T3 α β γ} (h1 : TgG K g1 xy.a G G1 t1) (h2 : TgG K g2 xy.b G1 G2 t2) (h3 : TgG K g3 xy.c G2 G3 t3) : TgG K (gTup K 3 (gCons g1 (gCons g2 (gCons g3 gNil)))) xy G G3 (t1 ++ (t2 ++ t3)) := ⟨fun j hj => ((h3.1 j (notL (notL hj).2).2).trans (h2.1 j (notL (notL hj).2).1)).trans (h1.1 j (notL hj).1), fun B S0 S σ H F v k r Q q => by
  obtain ⟨p, a, b, c, rfl, hp, ra, rb, rc⟩ := r
  refine ⟨p, [a, b, c], rfl, seqT k.sub hp, rfl, a, [b, c], rfl, h1.2 B S0 S σ H F a k ra _ fun σ1 k1 o1 w1 => ⟨b, [c], rfl, h2.2 B S0 S σ1 H F b k1 rb _ fun σ2 k2 o2 w2 => ⟨c, [], rfl, h3.2 B S0 S σ2 H F c k2 rc _ fun σ3 k3 o3 w3 =>
    ⟨rfl, q σ3 k3 (fun j hj => ((o3 j (notL (notL hj).2).2).trans (o2 j (notL (notL hj).2).1)).trans (o1 j (notL hj).1)) fun vs hv => ?_⟩⟩⟩⟩
  rw [w3 vs fun t ht => hv t (List.mem_append_right _ (List.mem_append_right _ ht)), w2 vs fun t ht => hv t (List.mem_append_right _ (List.mem_append_left _ ht)), w1 vs fun t ht => hv t (List.mem_append_left _ ht)]⟩
end

/-! ### statements -/
section
variable {α β γ : Type} [Py α] [Py β] [Py γ] {x : α} {y : β} {G1 G2 : List Sl} {te ta tb : TE} {t u w : TS} {E : Ends} {tt : TT} {b : Bool} {i j : Nat} {g : TG} {ts : List Nat}
theorem q_next (h : At K B S0 E.nx G) : At K B S0 (tNext E) G := h
theorem q_seq (h : At K B S0 (t { E with nx := u E }) G) : At K B S0 (tSeq t u E) G := h
theorem q_asg (h : EvX K te G x G1) (hg : TgG K g x G1 G2 ts) (k : At K B S0 (u E) G2) : At K B S0 (tSeq (tAsg te g) u E) G := fun S σ H F kn =>
  h B S0 S σ H F kn _ fun v S' H' e kn' r => hg.2 B S0 S' σ H' F v kn' r _ fun σ' k2 _ _ => k S' σ' H' F k2
theorem q_set (h : EvX K te G x G1) (hi : G1[i]?.isSome = true) (k : At K B S0 (u E) (G1.set i (.im x))) : At K B S0 (tSeq (tAsg te (gName i)) u E) G := q_asg h (tg_name hi) k
theorem q_own {xs : List α} (h : EvL K te G xs G1) (hi : G1[i]?.isSome = true) (k : At K B S0 (u E) (G1.set i (.ow xs))) : At K B S0 (tSeq (tAsg te (gName i)) u E) G := fun S σ H F kn =>
  h B S0 S σ H F kn _ fun p vs S' H' e kn' hs hb hf hp r => k S' _ H' _ (kn'.setOwn (v := .ref p) ⟨p, vs, rfl, rfl, hp, r⟩ hi hs hb ⟨_, hp⟩ hf)
theorem q_dnew (α : Type) [Py α] (hi : G[i]?.isSome = true) (k : At K B S0 (u E) (G.set i (.ow (Dct.emp : Dct α)))) : At K B S0 (tSeq (tAsg tDNewK (gName i)) u E) G := fun S σ H F kn =>
  el_dnew (Q := fun x H1 => gName i x σ H1 (u E)) kn fun p H' kn' hs hb hf hp => k S _ H' _ (kn'.setOwn (v := .ref p) ⟨p, [], rfl, rfl, hp, True.intro⟩ hi hs hb ⟨_, hp⟩ hf)
theorem q_ret (h : EvX K te G x G1) (k : RT K B S0 E.rt x G1) : At K B S0 (tSeq (tRet te) u E) G := fun S σ H F kn =>
  h B S0 S σ H F kn _ fun v S' H' e kn' r => k S' σ H' F v kn' r
theorem q_brk (k : At K B S0 E.bk G) : At K B S0 (tSeq tBreak u E) G := k
theorem q_cnt (k : At K B S0 E.ct G) : At K B S0 (tSeq tCont u E) G := k
theorem q_drop (h : EvX K te G x G1) (k : At K B S0 (u E) G1) : At K B S0 (tSeq (tDrop te) u E) G := fun S σ H F kn =>
  h B S0 S σ H F kn _ fun v S' H' e kn' r => k S' σ H' F kn'
theorem q_if (h : EvT K tt G b G1) (h1 : b = true → At K B S0 (t { E with nx := u E }) G1) (h2 : b = false → At K B S0 (w { E with nx := u E }) G1) : At K B S0 (tSeq (tIfS tt t w) u E) G := fun S σ H F kn =>
  h B S0 S σ H F kn _ fun S' H' e kn' => by
    cases b with
    | true => exact h1 rfl S' σ H' F kn'
    | false => exact h2 rfl S' σ H' F kn'
/-- the ways of a statement meet in one of the states P -/
theorem q_cut (P : List Sl → Prop) (h : At K B S0 (t { E with nx := Mid K B S0 P }) G) (k : ∀ G', P G' → At K B S0 (u E) G') : At K B S0 (Evl.tCut t u E) G := fun S σ H F kn =>
  ⟨Mid K B S0 P, h S σ H F kn, fun σ' H' ⟨S', F', G', kn', p⟩ => k G' p S' σ' H' F' kn'⟩
theorem q_cut1 (G' : List Sl) (h : At K B S0 (t { E with nx := Mid K B S0 (· = G') }) G) (k : At K B S0 (u E) G') : At K B S0 (Evl.tCut t u E) G := q_cut _ h fun _ e => by rw [e]; exact k
theorem q_ifc (h : EvT K tt G b G1) (h1 : b = true → At K B S0 (t E) G1) (h2 : b = false → At K B S0 (w E) G1) : At K B S0 (tIfS tt t w E) G := fun S σ H F kn =>
  h B S0 S σ H F kn _ fun S' H' e kn' => by
    cases b with
    | true => exact h1 rfl S' σ H' F kn'
    | false => exact h2 rfl S' σ H' F kn'
/-- the owned list in slot i: append, set, pop -/
theorem own_list {xs : List α} (kn : Kn K B S0 S σ H F G) (h : G[i]? = some (.ow xs)) : ∃ p vs, σ[i]? = some (some (.ref p)) ∧ F i = [p] ∧ H p = some (.lst vs) ∧ RepL K S vs xs := by
  obtain ⟨v, h1, p, vs, rfl, h2, h3, h4⟩ := kn.ow h
  exact ⟨p, vs, h1, h2, h3, h4⟩
theorem own_listUpd {xs : List α} {p : Addr} {vs : List V} (kn : Kn K B S0 S σ H F G) (h1 : σ[i]? = some (some (.ref p))) (h2 : F i = [p]) (r : RepL K S vs xs) : Kn K B S0 S σ (upd H p (.lst vs)) F (G.set i (.ow xs)) := by
  refine kn.mut h1 (fun q hq => upd_ne fun z => hq (by rw [h2, z]; exact List.mem_singleton.mpr rfl)) (fun q hq => ?_) ?_
  · rw [h2] at hq
    cases List.mem_singleton.mp hq
    exact ⟨_, upd_same⟩
  · exact ⟨p, vs, rfl, h2, upd_same, r⟩
theorem own_dict {d : Dct α} (kn : Kn K B S0 S σ H F G) (h : G[i]? = some (.ow d)) : ∃ p kvs, σ[i]? = some (some (.ref p)) ∧ F i = [p] ∧ H p = some (.dK kvs) ∧ RepD K S kvs d.l := by
  obtain ⟨v, h1, p, vs, rfl, h2, h3, h4⟩ := kn.ow h
  exact ⟨p, vs, h1, h2, h3, h4⟩
theorem own_dictUpd {d : Dct α} {p : Addr} {kvs : List (Key × V)} (kn : Kn K B S0 S σ H F G) (h1 : σ[i]? = some (some (.ref p))) (h2 : F i = [p]) (r : RepD K S kvs d.l) : Kn K B S0 S σ (upd H p (.dK kvs)) F (G.set i (.ow d)) := by
  refine kn.mut h1 (fun q hq => upd_ne fun z => hq (by rw [h2, z]; exact List.mem_singleton.mpr rfl)) (fun q hq => ?_) ?_
  · rw [h2] at hq
    cases List.mem_singleton.mp hq
    exact ⟨_, upd_same⟩
  · exact ⟨p, kvs, rfl, h2, upd_same, r⟩
theorem q_app {xs xs' : List α} (hl : G[i]? = some (.ow xs)) (h : EvX K te G x G1) (hl1 : G1[i]? = some (.ow xs')) (hz : xs'.length < sizeLine) (k : At K B S0 (u E) (G1.set i (.ow (xs' ++ [x])))) :
    At K B S0 (tSeq (tDrop (tBM K "list" rAppend (tVar i) (tCons te tNil))) u E) G := fun S σ H F kn => by
  obtain ⟨p, vs, h1, h2, h3, h4⟩ := own_list kn hl
  refine ⟨.ref p, h1, .inl ⟨rfl, _, SqL.of h3⟩, h B S0 S σ H F kn _ fun v S' H' e kn' r => ?_⟩
  obtain ⟨p', vs', h1', h2', h3', h4'⟩ := own_list kn' hl1
  rw [h1] at h1'
  cases h1'
  exact ⟨p, vs', v, rfl, rfl, h3', by rw [h4'.len]; exact hz, k S' σ _ F (own_listUpd kn' h1 h2' (h4'.snoc r))⟩
theorem q_setL {xs : List α} {n : Int} (h : EvX K te G x G1) (hi : EvX K tb G1 n G2) (hl1 : G1[i]? = some (.ow xs)) (hl : G2[i]? = some (.ow xs)) (hn : 0 ≤ n ∧ n < xs.length) (k : At K B S0 (u E) (G2.set i (.ow (xs.set n.toNat x)))) :
    At K B S0 (tSeq (tAsg te (gSub (tVar i) tb rSetL)) u E) G := fun S σ H F kn =>
  h B S0 S σ H F kn _ fun v S1 H1 e1 k1 r1 => by
    obtain ⟨p, vs, h1, h2, h3, h4⟩ := own_list k1 hl1
    refine ⟨.ref p, h1, hi B S0 S1 σ H1 F k1 _ fun w S2 H2 e2 k2 r2 => ?_⟩
    obtain ⟨p', vs', h1', h2', h3', h4'⟩ := own_list k2 hl
    rw [h1] at h1'
    cases h1'
    refine ⟨p, vs', n, n.toNat, rfl, r2, h3', ?_, k S2 σ _ F (own_listUpd k2 h1 h2' (h4'.set (Py.mono e2 r1)))⟩
    unfold ixN
    rw [if_pos hn.1, if_pos (by rw [h4'.len]; exact hn.2)]
theorem q_dput {d : Dct α} {n : Int} (h : EvX K te G x G1) (hk : EvX K tb G1 n G2) (hl1 : G1[i]? = some (.ow d)) {d' : Dct α} (hl : G2[i]? = some (.ow d')) (hz : d'.l.length < sizeLine) (k : At K B S0 (u E) (G2.set i (.ow (d'.put n x)))) :
    At K B S0 (tSeq (sDPut (tVar i) tb te) u E) G := fun S σ H F kn =>
  h B S0 S σ H F kn _ fun v S1 H1 e1 k1 r1 => by
    obtain ⟨p, vs, h1, h2, h3, h4⟩ := own_dict k1 hl1
    refine ⟨.ref p, h1, hk B S0 S1 σ H1 F k1 _ fun w S2 H2 e2 k2 r2 => ?_⟩
    obtain ⟨p', vs', h1', h2', h3', h4'⟩ := own_dict k2 hl
    rw [h1] at h1'
    cases h1'
    rw [show w = .int n from r2]
    exact ⟨p, _, rfl, DPut.k (k := Sum.inl n) h3' (by rw [h4'.len]; exact hz), k S2 σ _ F (own_dictUpd k2 h1 h2' (h4'.put n (Py.mono e2 r1)))⟩
/-- d.pop(k, None) as a statement -/
theorem q_dpop {d : Dct α} {n : Int} (hl : G[i]? = some (.ow d)) (hk : EvX K tb G n G) (k : At K B S0 (u E) (G.set i (.ow (d.del n)))) : At K B S0 (tSeq (tDrop (tDPop2 (tVar i) tb (tC .non))) u E) G := fun S σ H F kn => by
  obtain ⟨p, vs, h1, h2, h3, h4⟩ := own_dict kn hl
  refine ⟨.ref p, h1, p, rfl, .inl ⟨vs, .inl h3⟩, hk B S0 S σ H F kn _ fun w S2 H2 e2 k2 r2 => ?_⟩
  obtain ⟨p', vs', h1', h2', h3', h4'⟩ := own_dict k2 hl
  rw [h1] at h1'
  cases h1'
  rw [show w = .int n from r2]
  have kd := k S2 σ _ F (own_dictUpd k2 h1 h2' (d := d.del n) (h4'.del n))
  refine ⟨vs', Sum.inl n, h3', rfl, fun v _ => kd, fun hn => ?_⟩
  have e : dropK vs' (Sum.inl n) = vs' := dropK_no (valV_not hn)
  rw [e] at kd
  have e2 : upd H2 p (.dK vs') = H2 := by
    funext q
    by_cases z : q = p
    · rw [z, upd_same, h3']
    · rw [upd_ne z]
  rw [e2] at kd
  exact kd
end

/-! ### what is walked -/
def Wk {α : Type} [Py α] (K : Fg) (J : It) (S : Hp) (xs : List α) : Prop := ∀ S' H' i, Same S S' → Same S' H' →
  (∀ x, xs[i]? = some x → J.go i H' ∧ ∀ v H'', J.yld i H' v H'' → ∃ S'', Grow S' H' S'' H'' ∧ Py.rep K S'' v x) ∧ (xs.length ≤ i → J.stop i H')
def ItG {α : Type} [Py α] (K : Fg) (wi : TI) (G : List Sl) (xs : List α) (G' : List Sl) : Prop :=
  ∀ B S0 S σ H F, Kn K B S0 S σ H F G → ∀ R : It → Hp → Prop, (∀ J S' H', Same S S' → Kn K B S0 S' σ H' F G' → Wk K J S' xs → R J H') → wi σ H R
def rng (a b : Int) : List Int := (List.range (b - a).toNat).map fun (i : Nat) => a + (i : Int)
def enumI {α : Type} (xs : List α) : List (Int × α) := (xs.zipIdx).map fun p => ((p.2 : Int), p.1)
section
variable {α β : Type} [Py α] [Py β] {G1 G2 : List Sl} {tl ta tb : TE}
theorem wk_list {S : Hp} {p : Addr} {vs : List V} {xs : List α} (hp : S p = some (.lst vs)) (r : RepL K S vs xs) : Wk K (Itl K p) S xs := fun S' H' i e1 e2 => by
  have h1 : SqL K H' p vs := SqL.of (e2 _ _ (e1 _ _ hp))
  refine ⟨fun x hx => ?_, fun hl => ⟨vs, h1, by rw [r.len]; exact hl⟩⟩
  obtain ⟨v, hv, rv⟩ := r.get hx
  refine ⟨⟨vs, v, h1, hv⟩, fun w H'' y => ?_⟩
  obtain ⟨rfl, y⟩ := y
  have e := y vs h1
  rw [hv] at e
  cases e
  exact ⟨S', Grow.refl e2, Py.mono e1 rv⟩
theorem it_list {xs : List α} (h : EvX K tl G xs G1) : ItG K (iList K tl) G xs G1 := fun B S0 S σ H F k R q =>
  h B S0 S σ H F k _ fun v S1 H1 e1 k1 r1 => by
    obtain ⟨p, vs, rfl, hp, hr⟩ := r1
    exact ⟨p, rfl, ⟨vs, SqL.of (k1.sub _ _ hp)⟩, q _ S1 H1 e1 k1 (wk_list hp hr)⟩
theorem wk_tup {S : Hp} {p : Addr} {vs : List V} {xs : List α} (hp : SqT K S p vs) (r : RepL K S vs xs) : Wk K (Itt K p) S xs := fun S' H' i e1 e2 => by
  have h1 : SqT K H' p vs := seqT e2 (seqT e1 hp)
  refine ⟨fun x hx => ?_, fun hl => ⟨vs, h1, by rw [r.len]; exact hl⟩⟩
  obtain ⟨v, hv, rv⟩ := r.get hx
  refine ⟨⟨vs, v, h1, hv⟩, fun w H'' y => ?_⟩
  obtain ⟨rfl, y⟩ := y
  have e := y vs h1
  rw [hv] at e
  cases e
  exact ⟨S', Grow.refl e2, Py.mono e1 rv⟩
theorem it_tup {xs : Tp α} (h : EvX K tl G xs G1) : ItG K (iTup K tl) G xs.l G1 := fun B S0 S σ H F k R q =>
  h B S0 S σ H F k _ fun v S1 H1 e1 k1 r1 => by
    obtain ⟨p, vs, rfl, hp, hr⟩ := r1
    exact ⟨p, rfl, ⟨vs, seqT k1.sub hp⟩, q _ S1 H1 e1 k1 (wk_tup hp hr)⟩
theorem wk_rng {S : Hp} (a : Int) (n : Nat) : Wk K (Itr a n) S ((List.range n).map fun (i : Nat) => a + (i : Int)) := fun S' H' i e1 e2 => by
  refine ⟨fun x hx => ?_, fun hl => by rw [List.length_map, List.length_range] at hl; exact hl⟩
  have hi : i < n := by
    have := (List.getElem?_eq_some_iff.mp hx).1
    rw [List.length_map, List.length_range] at this
    exact this
  rw [List.getElem?_map, List.getElem?_range hi] at hx
  cases hx
  refine ⟨hi, fun w H'' y => ?_⟩
  obtain ⟨rfl, rfl⟩ := y
  exact ⟨S', Grow.refl e2, rfl⟩
theorem it_rng1 {n : Int} (h : EvX K ta G n G1) (hn : -4611686018427387904 ≤ n ∧ n < 4611686018427387904) : ItG K (iRng1 (tCons ta tNil)) G (rng 0 n) G1 := fun B S0 S σ H F k R q =>
  h B S0 S σ H F k _ fun v S1 H1 e1 k1 r1 => ⟨n, by rw [show v = .int n from r1], hn.1, hn.2, q _ S1 H1 e1 k1 (by
    have := wk_rng (K := K) (S := S1) 0 n.toNat
    unfold rng
    rw [Int.sub_zero]
    exact this)⟩
theorem it_rng2 {a n : Int} (ha : EvX K ta G a G1) (h : EvX K tb G1 n G2) (hn : (-4611686018427387904 ≤ a ∧ a < 4611686018427387904) ∧ -4611686018427387904 ≤ n ∧ n < 4611686018427387904) : ItG K (iRng2 (tCons ta (tCons tb tNil))) G (rng a n) G2 := fun B S0 S σ H F k R q =>
  ha B S0 S σ H F k _ fun v S1 H1 e1 k1 r1 => h B S0 S1 σ H1 F k1 _ fun w S2 H2 e2 k2 r2 => ⟨a, n, by rw [show v = .int a from r1, show w = .int n from r2], ⟨hn.1.1, hn.1.2, hn.2.1, hn.2.2⟩, q _ S2 H2 (e1.trans e2) k2 (wk_rng a _)⟩
theorem wk_enum {S : Hp} {p : Addr} {vs : List V} {xs : List α} (hp : S p = some (.lst vs)) (r : RepL K S vs xs) : Wk K (Ite K p) S (enumI xs) := fun S' H' i e1 e2 => by
  have h1 : SqL K H' p vs := SqL.of (e2 _ _ (e1 _ _ hp))
  have hlen : (enumI xs).length = xs.length := by unfold enumI; rw [List.length_map, List.length_zipIdx]
  refine ⟨fun x hx => ?_, fun hl => ⟨vs, h1, by rw [r.len, ← hlen]; exact hl⟩⟩
  have hi : i < xs.length := by
    rw [← hlen]
    exact (List.getElem?_eq_some_iff.mp hx).1
  have ex : x = ((i : Int), xs[i]) := by
    unfold enumI at hx
    rw [List.getElem?_map, List.getElem?_zipIdx, List.getElem?_eq_getElem hi] at hx
    simpa using hx.symm
  subst ex
  obtain ⟨v, hv, rv⟩ := r.get (List.getElem?_eq_getElem hi)
  refine ⟨⟨vs, v, h1, hv⟩, fun w H'' y => ?_⟩
  obtain ⟨T, u, rfl, hT, rfl, y⟩ := y
  have e := y vs h1
  rw [hv] at e
  cases e
  have g := Grow.new (o := .tup [.int (i : Nat), v]) e2 hT
  exact ⟨_, g, T, _, v, rfl, SqT.of upd_same, rfl, Py.mono (e1.trans g.s) rv⟩
theorem it_enum {xs : List α} (h : EvX K ta G xs G1) : ItG K (iEnum K (tCons ta tNil)) G (enumI xs) G1 := fun B S0 S σ H F k R q =>
  h B S0 S σ H F k _ fun v S1 H1 e1 k1 r1 => by
    obtain ⟨p, vs, rfl, hp, hr⟩ := r1
    exact ⟨p, vs, rfl, SqL.of (k1.sub _ _ hp), q _ S1 H1 e1 k1 (wk_enum hp hr)⟩
theorem wk_rev {S : Hp} {p : Addr} {vs : List V} {xs : List α} (hp : S p = some (.lst vs)) (r : RepL K S vs xs) : Wk K (Itv K p vs.length) S xs.reverse := fun S' H' i e1 e2 => by
  have h1 : SqL K H' p vs := SqL.of (e2 _ _ (e1 _ _ hp))
  refine ⟨fun x hx => ?_, fun hl => by show vs.length ≤ i; rw [r.len]; rw [List.length_reverse] at hl; exact hl⟩
  have hi : i < xs.length := by
    have := (List.getElem?_eq_some_iff.mp hx).1
    rw [List.length_reverse] at this
    exact this
  rw [List.getElem?_reverse hi] at hx
  obtain ⟨v, hv, rv⟩ := r.get hx
  have hl := r.len
  rw [← hl] at hv
  refine ⟨⟨by omega, vs, v, h1, hv⟩, fun w H'' y => ?_⟩
  obtain ⟨rfl, y⟩ := y
  have e := y vs h1
  rw [hv] at e
  cases e
  exact ⟨S', Grow.refl e2, Py.mono e1 rv⟩
theorem it_rev {xs : List α} (h : EvX K ta G xs G1) : ItG K (iRev K (tCons ta tNil)) G xs.reverse G1 := fun B S0 S σ H F k R q =>
  h B S0 S σ H F k _ fun v S1 H1 e1 k1 r1 => by
    obtain ⟨p, vs, rfl, hp, hr⟩ := r1
    exact ⟨p, vs, rfl, SqL.of (k1.sub _ _ hp), q _ S1 H1 e1 k1 (wk_rev hp hr)⟩
theorem wk_zip {S : Hp} {p p' : Addr} {vs vs' : List V} {xs : List α} {ys : List β} (hp : S p = some (.lst vs)) (r : RepL K S vs xs) (hp' : S p' = some (.lst vs')) (r' : RepL K S vs' ys) : Wk K (Itz K p p') S (xs.zip ys) := fun S' H' i e1 e2 => by
  have h1 : SqL K H' p vs := SqL.of (e2 _ _ (e1 _ _ hp))
  have h2 : SqL K H' p' vs' := SqL.of (e2 _ _ (e1 _ _ hp'))
  refine ⟨fun x hx => ?_, fun hl => ⟨vs, vs', h1, h2, ?_⟩⟩
  · have hi := (List.getElem?_eq_some_iff.mp hx).1
    rw [List.length_zip] at hi
    have hx1 : xs[i]? = some x.1 := by
      rw [List.getElem?_eq_getElem (show i < (xs.zip ys).length by rw [List.length_zip]; exact hi), List.getElem_zip] at hx
      cases hx
      exact List.getElem?_eq_getElem _
    have hx2 : ys[i]? = some x.2 := by
      rw [List.getElem?_eq_getElem (show i < (xs.zip ys).length by rw [List.length_zip]; exact hi), List.getElem_zip] at hx
      cases hx
      exact List.getElem?_eq_getElem _
    obtain ⟨v, hv, rv⟩ := r.get hx1
    obtain ⟨v', hv', rv'⟩ := r'.get hx2
    refine ⟨⟨vs, vs', v, v', h1, h2, hv, hv'⟩, fun w H'' y => ?_⟩
    obtain ⟨T, u, u', rfl, hT, rfl, y1, y2⟩ := y
    have e := y1 vs h1
    rw [hv] at e
    cases e
    have e := y2 vs' h2
    rw [hv'] at e
    cases e
    have g := Grow.new (o := .tup [v, v']) e2 hT
    exact ⟨_, g, T, v, v', rfl, SqT.of upd_same, Py.mono (e1.trans g.s) rv, Py.mono (e1.trans g.s) rv'⟩
  · rw [List.length_zip] at hl
    rw [r.len, r'.len]
    omega
theorem it_zip {xs : List α} {ys : List β} (h : EvX K ta G xs G1) (h' : EvX K tb G1 ys G2) : ItG K (iZip K (tCons ta (tCons tb tNil))) G (xs.zip ys) G2 := fun B S0 S σ H F k R q =>
  h B S0 S σ H F k _ fun v S1 H1 e1 k1 r1 => h' B S0 S1 σ H1 F k1 _ fun w S2 H2 e2 k2 r2 => by
    obtain ⟨p, vs, rfl, hp, hr⟩ := Py.mono e2 r1
    obtain ⟨p', vs', rfl, hp', hr'⟩ := r2
    exact ⟨p, p', vs, vs', rfl, SqL.of (k2.sub _ _ hp), SqL.of (k2.sub _ _ hp'), q _ S2 H2 (e1.trans e2) k2 (wk_zip hp hr hp' hr')⟩
end

/-! ### for -/
section
variable {α : Type} [Py α] {G1 : List Sl} {wi : TI} {g : TG} {tb u : TS} {E : Ends} {xs : List α}
/-- I pre post G: the items pre are done, post are left, the state is G -/
theorem q_for (I : List α → List α → List Sl → Prop) (hi : ItG K wi G xs G1) (h0 : I [] xs G1)
    (hs : ∀ pre x post Gi, pre ++ x :: post = xs → I pre (x :: post) Gi → ∀ S1, Reb B S0 S1 → ∃ G2 ts, TgG K g x Gi G2 ts ∧ At K B S1 (tb { E with nx := Mid K B S1 (I (pre ++ [x]) post), ct := Mid K B S1 (I (pre ++ [x]) post), bk := u E }) G2)
    (hd : ∀ Gi, I xs [] Gi → At K B S0 (u E) Gi) : At K B S0 (tSeq (tFor wi g tb) u E) G := fun S σ H F kn =>
  hi B S0 S σ H F kn _ fun J S1 H1 e1 k1 wk => by
    have rb : Reb B S0 S1 := k1.rebOf
    refine ⟨fun i m σ H => ∃ pre post S F Gi, pre ++ post = xs ∧ pre.length = i ∧ post.length = m ∧ Kn K B S1 S σ H F Gi ∧ I pre post Gi, ⟨xs.length, [], xs, S1, F, G1, rfl, rfl, rfl, k1.reb, h0⟩, ?_⟩
    rintro i m σ' H' ⟨pre, post, S2, F2, Gi, ex, rfl, rfl, k2, p⟩
    cases post with
    | nil =>
      refine .inl ⟨(wk S2 H' pre.length k2.s0 k2.sub).2 (by rw [← ex, List.append_nil]; exact Nat.le_refl _), ?_⟩
      rw [List.append_nil] at ex
      subst ex
      exact hd Gi p S2 σ' H' F2 (k2.unreb rb)
    | cons x post =>
      have hx : xs[pre.length]? = some x := by
        rw [← ex, List.getElem?_append_right (Nat.le_refl _), Nat.sub_self]
        rfl
      obtain ⟨go, yl⟩ := (wk S2 H' pre.length k2.s0 k2.sub).1 x hx
      refine .inr ⟨go, Mid K B S1 (I (pre ++ [x]) post), ?_, ?_⟩
      · rintro σ3 H3 ⟨S3, F3, G3, k3, p3⟩
        exact ⟨post.length, by rw [List.length_cons]; omega, pre ++ [x], post, S3, F3, G3, by rw [← ex, List.append_assoc]; rfl, by rw [List.length_append]; rfl, rfl, k3, p3⟩
      · intro v H3 y
        obtain ⟨S3, gr, r⟩ := yl v H3 y
        obtain ⟨G2, ts, tg, bd⟩ := hs pre x post Gi ex p S1 rb
        exact tg.2 B S1 S3 σ' H3 F2 v (k2.grow gr) r _ fun σ4 k4 _ _ => bd S3 σ4 H3 F2 k4
/-- a loop that is never left: a fold -/
theorem q_fold {τ : Type} (γ : τ → List Sl) (step : τ → α → τ) (s0 : τ) (hi : ItG K wi G xs G1) (h0 : Le (γ s0) G1)
    (hs : ∀ pre x post, pre ++ x :: post = xs → ∀ S1, Reb B S0 S1 → ∃ G2 ts, TgG K g x (γ (pre.foldl step s0)) G2 ts ∧
      At K B S1 (tb { E with nx := Mid K B S1 (· = γ (step (pre.foldl step s0) x)), ct := Mid K B S1 (· = γ (step (pre.foldl step s0) x)), bk := u E }) G2)
    (hd : At K B S0 (u E) (γ (xs.foldl step s0))) : At K B S0 (tSeq (tFor wi g tb) u E) G := by
  have hi' : ItG K wi G xs (γ s0) := fun B S0 S σ H F k R q => hi B S0 S σ H F k R fun J S' H' e k' w => q J S' H' e (k'.le h0) w
  refine q_for (fun pre post Gi => Gi = γ (pre.foldl step s0)) hi' rfl (fun pre x post Gi ex p S1 rb => ?_) fun Gi p => by rw [p]; exact hd
  subst p
  obtain ⟨G2, ts, tg, bd⟩ := hs pre x post ex S1 rb
  refine ⟨G2, ts, tg, ?_⟩
  have e : ∀ Gi, (Gi = γ ((pre ++ [x]).foldl step s0)) = (Gi = γ (step (pre.foldl step s0) x)) := fun Gi => by rw [List.foldl_append]; rfl
  have e2 : (fun Gi => Gi = γ ((pre ++ [x]).foldl step s0)) = (fun Gi => Gi = γ (step (pre.foldl step s0) x)) := funext e
  show At K B S1 (tb { E with nx := Mid K B S1 (fun Gi => Gi = γ ((pre ++ [x]).foldl step s0)), ct := Mid K B S1 (fun Gi => Gi = γ ((pre ++ [x]).foldl step s0)), bk := u E }) G2
  rw [e2]
  exact bd
end
/-! ### while -/
section
variable {tt : TT} {tb u : TS} {E : Ends}
theorem q_while (I : Nat → List Sl → Prop) (m0 : Nat) (h0 : I m0 G) (hs : ∀ m Gi, I m Gi → ∀ S1, Reb B S0 S1 → ∃ b, EvT K tt Gi b Gi ∧
      (b = true → At K B S1 (tb { E with nx := Mid K B S1 (fun G' => ∃ m', m' < m ∧ I m' G'), ct := Mid K B S1 (fun G' => ∃ m', m' < m ∧ I m' G'), bk := u E }) Gi) ∧ (b = false → At K B S1 (u E) Gi)) :
    At K B S0 (tSeq (tWhile tt tb) u E) G := fun S σ H F kn => by
  refine ⟨fun m σ H => ∃ S F Gi, Kn K B S0 S σ H F Gi ∧ I m Gi, ⟨m0, S, F, G, kn, h0⟩, ?_⟩
  rintro m σ' H' ⟨S1, F1, Gi, k1, p⟩
  obtain ⟨b, ht, h1, h2⟩ := hs m Gi p S0 Reb.refl
  refine ht B S0 S1 σ' H' F1 k1 _ fun S2 H2 e2 k2 => ?_
  cases b with
  | true =>
    refine ⟨Mid K B S0 (fun G' => ∃ m', m' < m ∧ I m' G'), ?_, h1 rfl S2 σ' H2 F1 k2⟩
    rintro σ3 H3 ⟨S3, F3, G3, k3, m', hm, p3⟩
    exact ⟨m', hm, S3, F3, G3, k3, p3⟩
  | false => exact h2 rfl S2 σ' H2 F1 k2
end
/-! ### comprehensions -/
def Sl.isOw : Sl → Bool
  | @Sl.ow _ _ _ => true
  | _ => false
theorem wipeG_get (G : List Sl) : ∀ (vs : List Nat) (k : Nat), k ∉ vs → (wipeG G vs)[k]? = G[k]?
  | [], _, _ => rfl
  | v :: vs, k, h => by
    unfold wipeG
    rw [List.getElem?_set_ne fun e => h (by rw [e]; exact List.mem_cons_self)]
    exact wipeG_get G vs k fun q => h (List.mem_cons_of_mem _ q)
theorem wipe_get' {σ : St} {vs : List Nat} {k : Nat} (h : k ∉ vs) : (L2.wipe σ vs)[k]? = σ[k]? := by
  rw [wipe_get, if_neg fun q => h q.1]
section
variable {α β τ : Type} [Py α] [Py β] {G1 : List Sl} {wi : TI} {g : TG} {tt : TT} {te : TE} {vs : List Nat} {xs : List α}
/-- what a block leaves, seen from without -/
theorem Kn.outer {B1 : Hp} {G2 Gn : List Sl} {σ2 : St} (k : Kn K B S0 S σ H F G) (e : Same S S') (k2 : Kn K B1 S0 S' σ2 H' F G2) (hb : Same B B1) (hσ : ∀ j : Nat, j ∉ vs → σ2[j]? = σ[j]?)
    (hG : ∀ j s, Gn[j]? = some s → (j ∉ vs ∧ G2[j]? = some s) ∨ (s.isOw = false ∧ G[j]? = some s)) (hl : Gn.length = G.length) : Kn K B S0 S' σ H' F Gn := by
  refine ⟨k2.s0, k2.sub, hb.trans k2.keep, fun p o q => k2.clean p o (hb p o q), fun i p hp => ?_, k2.dj, hl.trans k.len, fun j s hj => ?_⟩
  · obtain ⟨h1, h2, h3⟩ := k2.off i p hp
    exact ⟨h1, hb.free h2, h3⟩
  · rcases hG j s hj with ⟨hv, h2⟩ | ⟨ho, h1⟩
    · have z := k2.sl j s h2
      rw [hσ j hv] at z
      exact z
    · have z := k.sl j s h1
      cases s with
      | no => exact True.intro
      | im x =>
        obtain ⟨v, h1, h2⟩ := z
        exact ⟨v, h1, Py.mono e h2⟩
      | ow x => cases ho
/-- the general form: the state γ s turns with the items -/
theorem el_lcX (γ : τ → List Sl) (s0 : τ) (step : τ → α → τ) (f : τ → α → Bool) (e : τ → α → β) (hi : ItG K wi G xs (γ s0)) (hl : xs.length ≤ 1000000)
    (hs : ∀ pre x post, pre ++ x :: post = xs → ∀ s, s = pre.foldl step s0 → ∃ G2 ts, TgG K g x (wipeG (γ s) vs) G2 ts ∧ (∀ t ∈ ts, t ∈ vs) ∧ ∃ G3 G4, EvT K tt G2 (f s x) G3 ∧ (f s x = true → EvX K te G3 (e s x) G4) ∧ (f s x = false → G4 = G3) ∧
      (∀ j sl, (γ (step s x))[j]? = some sl → (j ∉ vs ∧ G4[j]? = some sl) ∨ (sl.isOw = false ∧ (γ s)[j]? = some sl)) ∧ (γ (step s x)).length = (γ s).length) :
    EvL K (tLc wi g tt te vs) G ((xs.foldl (fun (a : List β × τ) x => (if f a.2 x = true then a.1 ++ [e a.2 x] else a.1, step a.2 x)) ([], s0)).1) (γ (xs.foldl step s0)) := fun B S0 S σ H F kn Q q =>
  hi B S0 S σ H F kn _ fun J S1 H1 e1 k1 wk D hD => by
    obtain ⟨a1, a2, a3⟩ := k1.free hD
    have hsnd : ∀ (l : List α) (a : List β) (s : τ), (l.foldl (fun (a : List β × τ) x => (if f a.2 x = true then a.1 ++ [e a.2 x] else a.1, step a.2 x)) (a, s)).2 = l.foldl step s := by
      intro l
      induction l with
      | nil => intro a s; rfl
      | cons x l ih => intro a s; rw [List.foldl_cons, List.foldl_cons]; exact ih _ _
    refine ⟨fun i m H => ∃ pre post S acc, pre ++ post = xs ∧ pre.length = i ∧ post.length = m ∧ Kn K B S0 S σ H F (γ (pre.foldl step s0)) ∧ Same S1 S ∧ S D = none ∧ H D = some (.lst acc) ∧ acc.length ≤ pre.length ∧ RepL K S acc ((pre.foldl (fun (a : List β × τ) x => (if f a.2 x = true then a.1 ++ [e a.2 x] else a.1, step a.2 x)) ([], s0)).1),
      ⟨xs.length, [], xs, S1, [], rfl, rfl, rfl, k1.raw hD, Same.refl _, a1, upd_same, Nat.le_refl _, True.intro⟩, ?_⟩
    rintro i m H' ⟨pre, post, S2, acc, ex, rfl, rfl, k2, s2, d2, hd2, hacc, r2⟩
    cases post with
    | nil =>
      refine .inl ⟨(wk S2 H' pre.length s2 k2.sub).2 (by rw [← ex, List.append_nil]; exact Nat.le_refl _), ?_⟩
      rw [List.append_nil] at ex
      subst ex
      exact q D acc S2 H' (e1.trans s2) k2 d2 a2 a3 hd2 r2
    | cons x post =>
      have hx : xs[pre.length]? = some x := by
        rw [← ex, List.getElem?_append_right (Nat.le_refl _), Nat.sub_self]
        rfl
      obtain ⟨go, yl⟩ := (wk S2 H' pre.length s2 k2.sub).1 x hx
      have hlen : pre.length < 1000000 := by
        have := congrArg List.length ex
        rw [List.length_append, List.length_cons] at this
        omega
      refine .inr ⟨go, fun H => ∃ S acc, Kn K B S0 S σ H F (γ ((pre ++ [x]).foldl step s0)) ∧ Same S1 S ∧ S D = none ∧ H D = some (.lst acc) ∧ acc.length ≤ (pre ++ [x]).length ∧ RepL K S acc (((pre ++ [x]).foldl (fun (a : List β × τ) x => (if f a.2 x = true then a.1 ++ [e a.2 x] else a.1, step a.2 x)) ([], s0)).1), ?_, ?_⟩
      · rintro H3 ⟨S3, acc3, k3, s3, d3, hd3, ha3, r3⟩
        exact ⟨post.length, by rw [List.length_cons]; omega, pre ++ [x], post, S3, acc3, by rw [← ex, List.append_assoc]; rfl, by rw [List.length_append]; rfl, rfl, k3, s3, d3, hd3, ha3, r3⟩
      · intro v H3 y
        obtain ⟨S3, gr, r⟩ := yl v H3 y
        obtain ⟨G2, ts, tg, hts, G3, G4, ht, he, hn, hG, hlG⟩ := hs pre x post ex _ rfl
        have k3 := k2.grow gr
        have hd3 := gr.h D _ hd2
        have d3 : S3 D = none := (gr.cl D _ hd2).trans d2
        have kp := (k3.wipe vs).pin hd3 d3 a3
        have ef : (pre ++ [x]).foldl step s0 = step (pre.foldl step s0) x := by rw [List.foldl_append]; rfl
        have ea : ((pre ++ [x]).foldl (fun (a : List β × τ) x => (if f a.2 x = true then a.1 ++ [e a.2 x] else a.1, step a.2 x)) ([], s0)).1 =
            if f (pre.foldl step s0) x = true then (pre.foldl (fun (a : List β × τ) x => (if f a.2 x = true then a.1 ++ [e a.2 x] else a.1, step a.2 x)) ([], s0)).1 ++ [e (pre.foldl step s0) x] else (pre.foldl (fun (a : List β × τ) x => (if f a.2 x = true then a.1 ++ [e a.2 x] else a.1, step a.2 x)) ([], s0)).1 := by
          rw [List.foldl_append, List.foldl_cons, List.foldl_nil, hsnd]
        rw [ef, ea]
        refine tg.2 (upd B D (.lst acc)) S0 S3 _ H3 F v kp r _ fun σ4 k4 o4 w4 => ⟨?_, ?_⟩
        · rw [w4 vs hts]
          apply List.ext_getElem?
          intro j
          rw [wipe_get, wipe_get, wipe_length]
          by_cases c : j ∈ vs ∧ j < σ.length
          · rw [if_pos c, if_pos c]
          · rw [if_neg c, if_neg c]
        · have hσ : ∀ j : Nat, j ∉ vs → σ4[j]? = σ[j]? := fun j hj => (o4 j fun q => hj (hts j q)).trans (wipe_get' hj)
          refine ht (upd B D (.lst acc)) S0 S3 σ4 H3 F k4 _ fun S5 H5 e5 k5 => ?_
          cases hf : f (pre.foldl step s0) x with
          | false =>
            have e4 := hn hf
            subst e4
            simp only [Bool.false_eq_true, if_false]
            have hd5 : H5 D = some (.lst acc) := k5.keep _ _ upd_same
            have d5 : S5 D = none := (k5.clean D _ upd_same).trans (k3.s0.free d3)
            exact ⟨S5, acc, Kn.outer k3 e5 k5 (same_new a2) hσ hG hlG, (s2.trans gr.s).trans e5, d5, hd5, by rw [List.length_append]; omega, r2.mono (gr.s.trans e5)⟩
          | true =>
            simp only [if_true]
            refine he hf (upd B D (.lst acc)) S0 S5 σ4 H5 F k5 _ fun v6 S6 H6 e6 k6 r6 => ?_
            have hd6 : H6 D = some (.lst acc) := k6.keep _ _ upd_same
            have d6 : S6 D = none := (k6.clean D _ upd_same).trans (k3.s0.free d3)
            refine ⟨acc, hd6, Nat.lt_of_le_of_lt hacc (Nat.lt_trans hlen (by decide)), S6, acc ++ [v6], (Kn.outer k3 (e5.trans e6) k6 (same_new a2) hσ hG hlG).poke d6 a2 a3, (s2.trans gr.s).trans (e5.trans e6), d6, upd_same, ?_, ?_⟩
            · rw [List.length_append, List.length_append]
              simp only [List.length_singleton]
              omega
            · exact (r2.mono (gr.s.trans (e5.trans e6))).snoc r6
theorem foldl_fm (f : α → Bool) (e : α → β) : ∀ (l : List α) (a : List β), (l.foldl (fun (a : List β × Unit) x => (if f x = true then a.1 ++ [e x] else a.1, ())) (a, ())).1 = a ++ (l.filter f).map e
  | [], a => by simp
  | x :: l, a => by
    rw [List.foldl_cons, foldl_fm f e l, List.filter_cons]
    cases f x with
    | true => simp
    | false => simp
/-- nothing turns -/
theorem el_lcF (f : α → Bool) (e : α → β) (hi : ItG K wi G xs G1) (hl : xs.length ≤ 1000000) (hw : (vs.all fun j => !((G1[j]?.map Sl.isOw).getD false)) = true)
    (hs : ∀ x, x ∈ xs → ∃ G2 ts, TgG K g x (wipeG G1 vs) G2 ts ∧ (∀ t ∈ ts, t ∈ vs) ∧ EvT K tt G2 (f x) G2 ∧ (f x = true → EvX K te G2 (e x) G2)) :
    EvL K (tLc wi g tt te vs) G ((xs.filter f).map e) G1 := by
  have h := el_lcX (K := K) (wi := wi) (g := g) (tt := tt) (te := te) (vs := vs) (G := G) (fun _ : Unit => G1) () (fun _ _ => ()) (fun _ => f) (fun _ => e) hi hl (fun pre x post ex s _ => by
    obtain ⟨G2, ts, tg, hts, ht, he⟩ := hs x (by rw [← ex]; exact List.mem_append_right _ List.mem_cons_self)
    refine ⟨G2, ts, tg, hts, G2, G2, ht, he, fun _ => rfl, fun j sl hj => ?_, rfl⟩
    by_cases hv : j ∈ vs
    · have := List.all_eq_true.mp hw j hv
      rw [hj] at this
      exact .inr ⟨by simpa using this, hj⟩
    · refine .inl ⟨hv, ?_⟩
      rw [tg.1 j fun q => hv (hts j q), wipeG_get _ _ _ hv]
      exact hj)
  have e1 := foldl_fm f e xs []
  rw [List.nil_append] at e1
  rw [e1] at h
  exact h
theorem el_lcM (e : α → β) (hi : ItG K wi G xs G1) (hl : xs.length ≤ 1000000) (hw : (vs.all fun j => !((G1[j]?.map Sl.isOw).getD false)) = true)
    (hs : ∀ x, x ∈ xs → ∃ G2 ts, TgG K g x (wipeG G1 vs) G2 ts ∧ (∀ t ∈ ts, t ∈ vs) ∧ EvX K te G2 (e x) G2) : EvL K (tLc wi g tYes te vs) G (xs.map e) G1 := by
  have h := el_lcF (K := K) (wi := wi) (g := g) (tt := tYes) (te := te) (vs := vs) (G := G) (fun _ => true) e hi hl hw fun x hx => by
    obtain ⟨G2, ts, a, b, c⟩ := hs x hx
    exact ⟨G2, ts, a, b, et_yes, fun _ => c⟩
  have ef : xs.filter (fun _ => true) = xs := List.filter_eq_self.mpr fun _ _ => rfl
  rw [ef] at h
  exact h
end
end
end GL

namespace GL
open PySem PySem.Spec PyProof.Rows L2
/-! ### defs -/
class Sls (α : Type) extends PyA α where
  sls : α → List Sl
  ok : ∀ {K : Fg} {S H : Hp} {vs : List V} {x : α}, toPyA.rep K S vs x → (sls x).length = vs.length ∧ ∀ (i : Nat) (s : Sl), (sls x)[i]? = some s → SlOk K S H (vs.map some)[i]? [] s
instance : Sls Unit := ⟨fun _ => [], fun h => ⟨by rw [show _ = [] from h]; rfl, fun i s e => by simp at e⟩⟩
instance {α β : Type} [Py α] [Sls β] : Sls (α × β) := ⟨fun x => .im x.1 :: Sls.sls x.2, fun {K S H vs x} h => by
  obtain ⟨v, ws, rfl, h1, h2⟩ := h
  obtain ⟨l, q⟩ := Sls.ok (H := H) h2
  refine ⟨by rw [List.length_cons, List.length_cons, l], fun i s e => ?_⟩
  cases i with
  | zero =>
    simp only [List.getElem?_cons_zero, Option.some.injEq] at e
    subst e
    exact ⟨v, rfl, h1⟩
  | succ i =>
    have := q i s (by simpa using e)
    simpa using this⟩
structure Cal (P : Program) (w : World) (K : Fg) (mg : Str → Option Value) (base : Heap) (k : Nat) (x : Str) (ps : List Str) (sp : Sp) : Prop where
  ex : ∃ (f : Addr) (fd : FuncData), mg x = some (.ref f) ∧ FnOk P w K mg base CX0 k f fd ps sp ∧ PySem.W.keepIn K (.ref f) = true ∧ Binds K fd ps []
structure Def (K : Fg) (mg : Str → Option Value) (x : Str) (st : Stmt) (ps : List Str) : Prop where
  ex : ∃ (f : Addr) (fd : FuncData), mg x = some (.ref f) ∧ Fun K x x st f fd ∧ Binds K fd ps []
theorem Cal.mono {P : Program} {w : World} {K : Fg} {mg : Str → Option Value} {base : Heap} {j k : Nat} {x : Str} {ps : List Str} {sp : Sp} (c : Cal P w K mg base j x ps sp) (h : j ≤ k) : Cal P w K mg base k x ps sp := by
  obtain ⟨f, fd, a, b, c, d⟩ := c.ex
  exact ⟨f, fd, a, b.mono h, c, d⟩
theorem pe_cal {X : Cx} {j k : Nat} {x : Str} {ps : List Str} {sp : Sp} {e : Expr} {es : List Expr} {t : TA} {p pos : Pos} (c : Cal X.prog X.w X.K X.mg X.base k x ps sp) (hr : Room j X.A) (hk : k ≤ j) (hg : Gl X x) (ha : PA X (e :: es) t)
    (hd : (x == ("__debug__" : Str)) = false := by decide) (hs : starEach (e :: es) X.env = (false, eval e X.env) :: starEach es X.env := by rfl) (hpl : (backTo pos (starEach es X.env)).any (·.1) = false := by rfl) :
    PE X (.Call (.Name x p) (e :: es) [] pos) (tCall sp [] E0 t) := by
  obtain ⟨f, fd, a, b, c, d⟩ := c.ex
  exact pe_call b (hr.mono hk) hg a c d .nil pass0 ha hd hs hpl
section
variable {P : Program} {w : World} {K : Fg} {mg : Str → Option Value} {base : Heap} {α β : Type} [Sls α] [Py β]
theorem start_kn {H S : Hp} {vs : List V} {a : α} {N : List Str} (e : Same S H) (r : PyA.rep K S vs a) : Kn K H S S (L2.start N vs) H (fun _ => []) (Sls.sls a ++ List.replicate (N.length - PyA.n α) .no) := by
  obtain ⟨l, q⟩ := Sls.ok (H := H) r
  have hn := PyA.len r
  refine ⟨Same.refl _, e, Same.refl _, fun _ _ _ => rfl, (fun i p hp => nomatch hp), (fun i j p hp => nomatch hp), ?_, fun i s hi => ?_⟩
  · unfold L2.start
    rw [List.length_append, List.length_append, List.length_map, List.length_replicate, List.length_replicate, l, hn]
  · unfold L2.start
    by_cases c : i < (Sls.sls a).length
    · rw [List.getElem?_append_left c] at hi
      rw [List.getElem?_append_left (by rw [List.length_map, ← l]; exact c)]
      exact q i s hi
    · rw [List.getElem?_append_right (by omega)] at hi
      have : s = .no := by
        have := List.mem_of_getElem? hi
        exact List.eq_of_mem_replicate this
      subst this
      exact True.intro
/-- a def by its mirror f -/
theorem def_spF {x : Str} {st : Stmt} {N ps : List Str} {k : Nat} {f : α → β} {pre : α → Prop} (D : Def K mg x st ps) (S : FnScope N ps (defScope st)) (hn : PyA.n α = ps.length)
    (h : ∀ (fa : Addr) (cdv : Value) (A : Around) (outer : List Env) (s : Shared) (H : Hp) (E : XK), Room k (A.deeper (envOfC x (defScope st) s.heap.objs.size fa cdv)) →
      ∃ t, PSs (cxOf CX0 P w K mg base N x (defScope st) fa cdv A outer s H E).nox (defBody st) t ∧
        ∀ (a : α), pre a → ∀ (B S0 : Hp) (Q : VK), (∀ G' y, y = f a → RT K B S0 Q y G') → At K B S0 (t { nx := fun _ H' => Q .non H', rt := Q }) (Sls.sls a ++ List.replicate (N.length - PyA.n α) .no)) :
    Cal P w K mg base (k + 1) x ps (spF K f pre) := by
  obtain ⟨fa, fd, m, F, b⟩ := D.ex
  refine ⟨fa, fd, m, F.ok S (fun vs H Q E ⟨S, a, _, r, _⟩ => (PyA.len r).trans hn) fun cdv A outer s H vs Q E hr ⟨S', a, e, r, hp, q⟩ => ?_, F.kp, b⟩
  obtain ⟨t, h1, h2⟩ := h fa cdv A outer s H E hr
  refine ⟨t, h1, h2 a hp H S' Q (fun G' y ey S1 σ1 H1 F1 v k1 r1 => ?_) S' _ H _ (start_kn e r)⟩
  subst ey
  exact q v S1 H1 ⟨k1.s0, k1.sub, k1.keep, k1.clean⟩ r1
end
/-- a dict that was owned is settled -/
theorem Kn.relD {α : Type} [Py α] {K : Fg} {B S0 S : Hp} {σ : L2.St} {H : Hp} {F : Nat → List Addr} {G : List Sl} {x : Dct α} {i : Nat} (k : Kn K B S0 S σ H F G) (h : G[i]? = some (.ow x)) : ∃ S', Same S S' ∧ Kn K B S0 S' σ H (upF F i []) (G.set i (.im x)) := by
  obtain ⟨v, hv, p, vs, rfl, hp, h1, h2⟩ := k.ow h
  obtain ⟨hs, hb, _⟩ := k.off i p (by rw [hp]; exact List.mem_singleton.mpr rfl)
  have k1 : Kn K B S0 S σ H (upF F i []) (G.set i .no) := by
    refine ⟨k.s0, k.sub, k.keep, k.clean, fun j q hq => ?_, fun a b q ha hb' => ?_, by rw [List.length_set]; exact k.len, fun j s e => ?_⟩
    · by_cases e : j = i
      · rw [e, upF_self] at hq
        cases hq
      · rw [upF_ne e] at hq
        exact k.off j q hq
    · by_cases ea : a = i
      · rw [ea, upF_self] at ha
        cases ha
      · by_cases eb : b = i
        · rw [eb, upF_self] at hb'
          cases hb'
        · rw [upF_ne ea] at ha
          rw [upF_ne eb] at hb'
          exact k.dj a b q ha hb'
    · rcases set_get e with ⟨rfl, rfl⟩ | ⟨ne, e⟩
      · exact True.intro
      · rw [upF_ne ne]
        exact k.sl j s e
  have hf : ∀ j, p ∉ upF F i [] j := fun j hj => by
    by_cases e : j = i
    · rw [e, upF_self] at hj
      cases hj
    · rw [upF_ne e] at hj
      exact e (k.dj j i p hj (by rw [hp]; exact List.mem_singleton.mpr rfl))
  have k2 := k1.settle h1 hs hb hf
  refine ⟨upd S p (.dK vs), same_new hs, ?_⟩
  have hl : i < G.length := (List.getElem?_eq_some_iff.mp h).1
  have k3 := k2.set (i := i) (v := .ref p) (x := x) ⟨p, vs, rfl, upd_same, h2.mono (same_new hs)⟩ (by rw [List.getElem?_set_self hl]; rfl)
  have e1 : σ.set i (some (.ref p)) = σ := by
    apply List.ext_getElem?
    intro j
    by_cases e : i = j
    · subst e
      rw [List.getElem?_set_self (by rw [← k.len]; exact hl)]
      exact hv.symm
    · rw [List.getElem?_set_ne e]
  rw [e1, List.set_set] at k3
  exact k3
theorem at_relD {α : Type} [Py α] {K : Fg} {B S0 : Hp} {G : List Sl} {x : Dct α} {i : Nat} {P : L2.St → Hp → Prop} (h : G[i]? = some (.ow x)) (q : At K B S0 P (G.set i (.im x))) : At K B S0 P G := fun S σ H F k => by
  obtain ⟨S', _, k'⟩ := k.relD h
  exact q S' σ H _ k'
end GL

namespace GL
open PySem PySem.Spec PyProof.Rows L2
/-! ### mirrors of loops that may be left -/
inductive Fl (τ ρ : Type) where
  | nx (s : τ)
  | bk (s : τ)
  | rt (r : ρ)
def forL {α τ ρ : Type} (body : τ → α → Fl τ ρ) (k : τ → ρ) : List α → τ → ρ
  | [], s => k s
  | x :: xs, s => match body s x with
    | .nx s' => forL body k xs s'
    | .bk s' => k s'
    | .rt r => r
def whl {τ ρ : Type} (c : τ → Bool) (body : τ → Fl τ ρ) (k : τ → ρ) : Nat → τ → ρ
  | 0, s => k s
  | n + 1, s => if c s = true then (match body s with
    | .nx s' => whl c body k n s'
    | .bk s' => k s'
    | .rt r => r) else k s
section
variable {α τ ρ : Type} {body : τ → α → Fl τ ρ} {k : τ → ρ} {x : α} {xs : List α} {s s' : τ} {r : ρ} {R : ρ}
theorem forL_nx (h : R = forL body k (x :: xs) s) (e : body s x = .nx s') : R = forL body k xs s' := by
  rw [h, forL, e]
theorem forL_bk (h : R = forL body k (x :: xs) s) (e : body s x = .bk s') : R = k s' := by
  rw [h, forL, e]
theorem forL_rt (h : R = forL body k (x :: xs) s) (e : body s x = .rt r) : R = r := by
  rw [h, forL, e]
variable {c : τ → Bool} {bodyW : τ → Fl τ ρ} {n : Nat}
theorem whl_nx (h : R = whl c bodyW k (n + 1) s) (hc : c s = true) (e : bodyW s = .nx s') : R = whl c bodyW k n s' := by
  rw [h, whl, if_pos hc, e]
theorem whl_bk (h : R = whl c bodyW k (n + 1) s) (hc : c s = true) (e : bodyW s = .bk s') : R = k s' := by
  rw [h, whl, if_pos hc, e]
theorem whl_rt (h : R = whl c bodyW k (n + 1) s) (hc : c s = true) (e : bodyW s = .rt r) : R = r := by
  rw [h, whl, if_pos hc, e]
theorem whl_end (h : R = whl c bodyW k n s) (hc : c s = false) : R = k s := by
  cases n with
  | zero => exact h
  | succ n => rw [h, whl, if_neg (by rw [hc]; decide)]
end
section
variable {K : Fg} {B S0 S1 S S' : Hp} {σ : L2.St} {H H' : Hp} {F : Nat → List Addr} {G G' : List Sl}
/-! ### statements that name what they give -/
section
variable {α β γ : Type} [Py α] [Py β] [Py γ] {x : α} {y : β} {G1 G2 : List Sl} {te ta tb : TE} {t u w : TS} {E : Ends} {tt : TT} {b : Bool} {i j l : Nat} {P : L2.St → Hp → Prop}
theorem at_gen {x : α} (i : Nat) (h : G[i]? = some (.im x)) (k : ∀ y, y = x → At K B S0 P (G.set i (.im y))) : At K B S0 P G := by
  have := k x rfl
  have e : G.set i (.im x) = G := by
    apply List.ext_getElem?
    intro j
    by_cases q : i = j
    · subst q
      rw [List.getElem?_set_self (List.getElem?_eq_some_iff.mp h).1, h]
    · rw [List.getElem?_set_ne q]
  rw [e] at this
  exact this
theorem at_genO {δ : Type} [Own δ] {x : δ} (i : Nat) (h : G[i]? = some (.ow x)) (k : ∀ y, y = x → At K B S0 P (G.set i (.ow y))) : At K B S0 P G := by
  have := k x rfl
  have e : G.set i (.ow x) = G := by
    apply List.ext_getElem?
    intro j
    by_cases q : i = j
    · subst q
      rw [List.getElem?_set_self (List.getElem?_eq_some_iff.mp h).1, h]
    · rw [List.getElem?_set_ne q]
  rw [e] at this
  exact this
theorem qg_set (i : Nat) (h : EvX K te G x G1) (hi : G1[i]?.isSome = true) (k : ∀ y, y = x → At K B S0 (u E) (G1.set i (.im y))) : At K B S0 (tSeq (tAsg te (gName i)) u E) G := q_set h hi (k x rfl)
theorem qg_own {xs : List α} (i : Nat) (h : EvL K te G xs G1) (hi : G1[i]?.isSome = true) (k : ∀ y, y = xs → At K B S0 (u E) (G1.set i (.ow y))) : At K B S0 (tSeq (tAsg te (gName i)) u E) G := q_own h hi (k xs rfl)
theorem qg_pair {xy : α × β} (i j : Nat) (h : EvX K te G xy G1) (hi : G1[i]?.isSome = true) (hj : (G1.set i (.im xy.1))[j]?.isSome = true) (k : ∀ a b, a = xy.1 → b = xy.2 → At K B S0 (u E) ((G1.set i (.im a)).set j (.im b))) :
    At K B S0 (tSeq (tAsg te (gTup K 2 (gCons (gName i) (gCons (gName j) gNil)))) u E) G := q_asg h (tg_pair (tg_name hi) (tg_name hj)) (k _ _ rfl rfl)
theorem qg_t3 {xy : T3 α β γ} (i j l : Nat) (h : EvX K te G xy G1) (hi : G1[i]?.isSome = true) (hj : (G1.set i (.im xy.a))[j]?.isSome = true) (hl : ((G1.set i (.im xy.a)).set j (.im xy.b))[l]?.isSome = true)
    (k : ∀ a b c, a = xy.a → b = xy.b → c = xy.c → At K B S0 (u E) (((G1.set i (.im a)).set j (.im b)).set l (.im c))) :
    At K B S0 (tSeq (tAsg te (gTup K 3 (gCons (gName i) (gCons (gName j) (gCons (gName l) gNil))))) u E) G := q_asg h (tg_t3 (tg_name hi) (tg_name hj) (tg_name hl)) (k _ _ _ rfl rfl rfl)
theorem qg_app {xs xs' : List α} (i : Nat) (hl : G[i]? = some (.ow xs)) (h : EvX K te G x G1) (hl1 : G1[i]? = some (.ow xs')) (hz : xs'.length < sizeLine) (k : ∀ y, y = xs' ++ [x] → At K B S0 (u E) (G1.set i (.ow y))) :
    At K B S0 (tSeq (tDrop (tBM K "list" rAppend (tVar i) (tCons te tNil))) u E) G := q_app hl h hl1 hz (k _ rfl)
theorem qg_setL {xs : List α} {n : Int} (i : Nat) (h : EvX K te G x G1) (hi : EvX K tb G1 n G2) (hl1 : G1[i]? = some (.ow xs)) (hl : G2[i]? = some (.ow xs)) (hn : 0 ≤ n ∧ n < xs.length) (k : ∀ y, y = xs.set n.toNat x → At K B S0 (u E) (G2.set i (.ow y))) :
    At K B S0 (tSeq (tAsg te (gSub (tVar i) tb rSetL)) u E) G := q_setL h hi hl1 hl hn (k _ rfl)
theorem qg_dput {d d' : Dct α} {n : Int} (i : Nat) (h : EvX K te G x G1) (hk : EvX K tb G1 n G2) (hl1 : G1[i]? = some (.ow d)) (hl : G2[i]? = some (.ow d')) (hz : d'.l.length < sizeLine) (k : ∀ y, y = d'.put n x → At K B S0 (u E) (G2.set i (.ow y))) :
    At K B S0 (tSeq (sDPut (tVar i) tb te) u E) G := q_dput h hk hl1 hl hz (k _ rfl)
theorem qg_dpop {d : Dct α} {n : Int} (i : Nat) (hl : G[i]? = some (.ow d)) (hk : EvX K tb G n G) (k : ∀ y, y = d.del n → At K B S0 (u E) (G.set i (.ow y))) : At K B S0 (tSeq (tDrop (tDPop2 (tVar i) tb (tC .non))) u E) G := q_dpop hl hk (k _ rfl)
/-- if c: .. where it is known that c is false -/
theorem q_ifF (h : EvT K tt G b G1) (hb : b = false) (k : At K B S0 (u E) G1) : At K B S0 (tSeq (tIfS tt t tNext) u E) G := q_if h (fun e => by rw [hb] at e; cases e) fun _ => k
end
/-! ### loops that name their state -/
section
variable {α : Type} [Py α] {τ ρ : Type} {G1 : List Sl} {wi : TI} {g : TG} {tb u : TS} {tt : TT} {E : Ends} {xs : List α}
theorem qg_fold (γ : τ → List Sl) (step : τ → α → τ) (s0 : τ) (hi : ItG K wi G xs G1) (h0 : Le (γ s0) G1)
    (hs : ∀ pre x post s, pre ++ x :: post = xs → s = pre.foldl step s0 → ∀ S1, Reb B S0 S1 → ∃ G2 ts, TgG K g x (γ s) G2 ts ∧ At K B S1 (tb { E with nx := Mid K B S1 (· = γ (step s x)), ct := Mid K B S1 (· = γ (step s x)), bk := u E }) G2)
    (hd : ∀ s, s = xs.foldl step s0 → At K B S0 (u E) (γ s)) : At K B S0 (tSeq (tFor wi g tb) u E) G :=
  q_fold γ step s0 hi h0 (fun pre x post ex S1 rb => hs pre x post _ ex rfl S1 rb) (hd _ rfl)
/-- a loop whose turns keep a word, nothing else is known -/
theorem qg_inv (γ : τ → List Sl) (I : List α → τ → Prop) (s0 : τ) (hi : ItG K wi G xs G1) (h0 : Le (γ s0) G1) (hI : I [] s0)
    (hs : ∀ pre x post s, pre ++ x :: post = xs → I pre s → ∀ S1, Reb B S0 S1 → ∃ G2 ts, TgG K g x (γ s) G2 ts ∧ At K B S1 (tb { E with nx := Mid K B S1 (fun G' => ∃ s', G' = γ s' ∧ I (pre ++ [x]) s'), ct := Mid K B S1 (fun G' => ∃ s', G' = γ s' ∧ I (pre ++ [x]) s'), bk := u E }) G2)
    (hd : ∀ s, I xs s → At K B S0 (u E) (γ s)) : At K B S0 (tSeq (tFor wi g tb) u E) G := by
  have hi' : ItG K wi G xs (γ s0) := fun B S0 S σ H F k R q => hi B S0 S σ H F k R fun J S' H' e k' w => q J S' H' e (k'.le h0) w
  refine q_for (fun pre post Gi => ∃ s, Gi = γ s ∧ I pre s) hi' ⟨s0, rfl, hI⟩ (fun pre x post Gi ex ⟨s, e, p⟩ S1 rb => ?_) fun Gi ⟨s, e, p⟩ => by rw [e]; exact hd s p
  subst e
  exact hs pre x post s ex p S1 rb
theorem qg_forL (γ : τ → List Sl) (body : τ → α → Fl τ ρ) (k : τ → ρ) (s0 : τ) (R : ρ) (I : List α → τ → Prop) (hi : ItG K wi G xs G1) (h0 : Le (γ s0) G1) (hR : R = forL body k xs s0) (hI : I [] s0)
    (hs : ∀ pre x post s, pre ++ x :: post = xs → I pre s → R = forL body k (x :: post) s → ∀ S1, Reb B S0 S1 → ∃ G2 ts, TgG K g x (γ s) G2 ts ∧
      At K B S1 (tb { E with nx := Mid K B S1 (fun G' => ∃ s', G' = γ s' ∧ R = forL body k post s' ∧ I (pre ++ [x]) s'), ct := Mid K B S1 (fun G' => ∃ s', G' = γ s' ∧ R = forL body k post s' ∧ I (pre ++ [x]) s'), bk := u E }) G2)
    (hd : ∀ s, R = k s → I xs s → At K B S0 (u E) (γ s)) : At K B S0 (tSeq (tFor wi g tb) u E) G := by
  have hi' : ItG K wi G xs (γ s0) := fun B S0 S σ H F k R q => hi B S0 S σ H F k R fun J S' H' e k' w => q J S' H' e (k'.le h0) w
  refine q_for (fun pre post Gi => ∃ s, Gi = γ s ∧ R = forL body k post s ∧ I pre s) hi' ⟨s0, rfl, hR, hI⟩ (fun pre x post Gi ex ⟨s, e, p, q⟩ S1 rb => ?_) fun Gi ⟨s, e, p, q⟩ => by rw [e]; exact hd s p q
  subst e
  exact hs pre x post s ex q p S1 rb
/-- what a turn of a while is to reach: n turns are left -/
def WhI (γ : τ → List Sl) (c : τ → Bool) (body : τ → Fl τ ρ) (k : τ → ρ) (R : ρ) (I : τ → Prop) (μ : τ → Nat) (m : Nat) (Gi : List Sl) : Prop := ∃ s, Gi = γ s ∧ R = whl c body k m s ∧ I s ∧ μ s ≤ m
def WhN (γ : τ → List Sl) (c : τ → Bool) (body : τ → Fl τ ρ) (k : τ → ρ) (R : ρ) (I : τ → Prop) (μ : τ → Nat) (n : Nat) (Gi : List Sl) : Prop := ∃ m', m' < n + 1 ∧ WhI γ c body k R I μ m' Gi
theorem whN {γ : τ → List Sl} {c : τ → Bool} {body : τ → Fl τ ρ} {k : τ → ρ} {R : ρ} {I : τ → Prop} {μ : τ → Nat} {n : Nat} {Gi : List Sl} (s s' : τ) (e : Gi = γ s') (h : R = whl c body k (n + 1) s) (hc : c s = true) (hb : body s = .nx s') (hI : I s') (hm : μ s ≤ n + 1) (hl : μ s' < μ s) : WhN γ c body k R I μ n Gi :=
  ⟨n, Nat.lt_succ_self n, s', e, whl_nx h hc hb, hI, by omega⟩
theorem qg_whl (γ : τ → List Sl) (c : τ → Bool) (body : τ → Fl τ ρ) (k : τ → ρ) (s0 : τ) (n : Nat) (R : ρ) (I : τ → Prop) (μ : τ → Nat) (h0 : Le (γ s0) G) (hR : R = whl c body k n s0) (hI : I s0) (hn : μ s0 ≤ n) (hz : ∀ s, I s → μ s = 0 → c s = false)
    (hc : ∀ s, I s → EvT K tt (γ s) (c s) (γ s))
    (hs : ∀ n s, I s → μ s ≤ n + 1 → c s = true → R = whl c body k (n + 1) s → ∀ S1, Reb B S0 S1 →
      At K B S1 (tb { E with nx := Mid K B S1 (WhN γ c body k R I μ n), ct := Mid K B S1 (WhN γ c body k R I μ n), bk := u E }) (γ s))
    (hd : ∀ s, R = k s → I s → c s = false → ∀ S1, Reb B S0 S1 → At K B S1 (u E) (γ s)) : At K B S0 (tSeq (tWhile tt tb) u E) G := by
  refine at_le h0 (q_while (WhI γ c body k R I μ) n ⟨s0, rfl, hR, hI, hn⟩ fun m Gi ⟨s, e, p, q, r⟩ S1 rb => ?_)
  subst e
  refine ⟨c s, hc s q, fun hb => ?_, fun hb => hd s (whl_end p hb) q hb S1 rb⟩
  cases m with
  | zero =>
    rw [hz s q (by omega)] at hb
    cases hb
  | succ m => exact hs m s q r hb p S1 rb
end

/-! ### a def that turns its first argument -/
/-- vs = the owned thing, then packed arguments; f gives the value and what the owned thing is behind it -/
def spM {ω α β : Type} [Own ω] [PyA α] [Py β] (K : Fg) (f : ω → α → β × ω) (pre : ω → α → Prop) : Sp := fun vs H Q _ => ∃ (S : Hp) (v0 : V) (ws : List V) (ps : List Addr) (z : ω) (a : α), vs = v0 :: ws ∧ Same S H ∧ Own.own K S H v0 ps z ∧
  (∀ p ∈ ps, S p = none ∧ ∃ o, H p = some o) ∧ PyA.rep K S ws a ∧ pre z a ∧ ∀ v S' H', Same S S' → Same S' H' → (∀ p o, p ∉ ps → H p = some o → H' p = some o) → (∀ p o, H p = some o → S' p = S p) → (∀ p ∈ ps, ∃ o, H' p = some o) →
    Own.own K S' H' v0 ps (f z a).2 → Py.rep K S' v (f z a).1 → Q v H'
section
variable {ω α β : Type} [Own ω] [PyA α] [Py β] {G1 : List Sl} {f : ω → α → β × ω} {pre : ω → α → Prop} {z z' : ω} {a : α} {t : TA} {E : XK} {i : Nat}
theorem ev_callM (hi : G[i]? = some (.ow z)) (ha : EvA K t G a G1) (hi1 : G1[i]? = some (.ow z')) (hp : pre z' a) : EvX K (tCall (spM K f pre) [] E (tCons (tVar i) t)) G (f z' a).1 (G1.set i (.ow (f z' a).2)) := fun B S0 S σ H F k Q q => by
  obtain ⟨v0, h1, h2⟩ := k.ow hi
  refine ⟨v0, h1, ha B S0 S σ H F k _ fun vs S1 H1 e1 k1 r1 => ?_⟩
  show spM K f pre (v0 :: vs ++ []) H1 Q E
  rw [List.append_nil]
  obtain ⟨v1, h3, h4⟩ := k1.ow hi1
  rw [h1] at h3
  cases h3
  refine ⟨S1, v0, vs, F i, z', a, rfl, k1.sub, h4, fun p hp => ⟨(k1.off i p hp).1, (k1.off i p hp).2.2⟩, r1, hp, fun v S2 H2 s1 s2 hk hc hl ho r2 => q v S2 H2 (e1.trans s1) ?_ r2⟩
  have hH : ∀ p o, p ∉ F i → H1 p = some o → H2 p = some o := hk
  refine ⟨k1.s0.trans s1, s2, fun p o e => ?_, fun p o e => (hc p o (k1.keep p o e)).trans (k1.clean p o e), fun j p hp => ?_, k1.dj, by rw [List.length_set]; exact k1.len, fun j s e => ?_⟩
  · exact hH p o (fun m => by rw [(k1.off i p m).2.1] at e; cases e) (k1.keep p o e)
  · obtain ⟨a1, a2, o, a3⟩ := k1.off j p hp
    refine ⟨(hc p o a3).trans a1, a2, ?_⟩
    by_cases m : p ∈ F i
    · exact hl p m
    · exact ⟨o, hH p o m a3⟩
  · rcases set_get e with ⟨rfl, rfl⟩ | ⟨ne, e⟩
    · exact ⟨v0, h1, ho⟩
    · have w := k1.sl j s e
      cases s with
      | no => exact True.intro
      | im y =>
        obtain ⟨u, b1, b2⟩ := w
        exact ⟨u, b1, Py.mono s1 b2⟩
      | ow y =>
        obtain ⟨u, b1, b2⟩ := w
        refine ⟨u, b1, Own.mono s1 (fun p hp => ?_) b2⟩
        obtain ⟨_, _, o, a3⟩ := k1.off j p hp
        rw [a3]
        exact hH p o (fun m => ne (k1.dj j i p hp m)) a3
end
section
variable {P : Program} {w : World} {mg : Str → Option Value} {base : Heap} {ω α β : Type} [Own ω] [Anch ω] [Sls α] [Py β]
theorem start_knM {v0 : V} {ps : List Addr} {z : ω} {vs : List V} {a : α} {N : List Str} (e : Same S H) (ho : Own.own K S H v0 ps z) (hps : ∀ p ∈ ps, S p = none ∧ ∃ o, H p = some o) (r : PyA.rep K S vs a) :
    Kn K (fun p => if p ∈ ps then none else H p) S S (L2.start N (v0 :: vs)) H (fun i => if i = 0 then ps else []) (.ow z :: Sls.sls a ++ List.replicate (N.length - (PyA.n α + 1)) .no) := by
  obtain ⟨l, q⟩ := Sls.ok (H := H) r
  have hn := PyA.len r
  refine ⟨Same.refl _, e, fun p o hp => ?_, fun _ _ _ => rfl, fun i p hp => ?_, fun i j p hp hp' => ?_, ?_, fun i s hi => ?_⟩
  · by_cases m : p ∈ ps
    · rw [if_pos m] at hp
      cases hp
    · rw [if_neg m] at hp
      exact hp
  · by_cases c : i = 0
    · rw [if_pos c] at hp
      exact ⟨(hps p hp).1, if_pos hp, (hps p hp).2⟩
    · rw [if_neg c] at hp
      cases hp
  · by_cases c : i = 0
    · by_cases c' : j = 0
      · rw [c, c']
      · rw [if_neg c'] at hp'
        cases hp'
    · rw [if_neg c] at hp
      cases hp
  · unfold L2.start
    rw [List.length_append, List.length_append, List.length_map, List.length_replicate, List.length_replicate, List.length_cons, List.length_cons, l, hn]
  · unfold L2.start
    cases i with
    | zero =>
      simp only [List.cons_append, List.getElem?_cons_zero, Option.some.injEq] at hi
      subst hi
      exact ⟨v0, rfl, ho⟩
    | succ i =>
      simp only [List.cons_append, List.getElem?_cons_succ, List.map_cons] at hi ⊢
      by_cases c : i < (Sls.sls a).length
      · rw [List.getElem?_append_left c] at hi
        rw [List.getElem?_append_left (by rw [List.length_map, ← l]; exact c)]
        have := q i s hi
        rw [if_neg (Nat.succ_ne_zero i)]
        exact this
      · rw [List.getElem?_append_right (by omega)] at hi
        have : s = .no := by
          have := List.mem_of_getElem? hi
          exact List.eq_of_mem_replicate this
        subst this
        exact True.intro
theorem def_spM {x : Str} {st : Stmt} {N ps : List Str} {k : Nat} {f : ω → α → β × ω} {pre : ω → α → Prop} (D : Def K mg x st ps) (S : FnScope N ps (defScope st)) (hn : PyA.n α + 1 = ps.length) (hA : ∀ z a, pre z a → Anch.fp (f z a).2 = Anch.fp z)
    (h : ∀ (fa : Addr) (cdv : Value) (A : Around) (outer : List Env) (s : Shared) (H : Hp) (E : XK), Room k (A.deeper (envOfC x (defScope st) s.heap.objs.size fa cdv)) →
      ∃ t, PSs (cxOf CX0 P w K mg base N x (defScope st) fa cdv A outer s H E).nox (defBody st) t ∧
        ∀ (z : ω) (a : α), pre z a → ∀ (B S0 : Hp) (Q : VK), (∀ (G' : List Sl) y z', G'[0]? = some (.ow z') → (y, z') = f z a → RT K B S0 Q y G') → At K B S0 (t { nx := fun _ H' => Q .non H', rt := Q }) (.ow z :: Sls.sls a ++ List.replicate (N.length - (PyA.n α + 1)) .no)) :
    Cal P w K mg base (k + 1) x ps (spM K f pre) := by
  obtain ⟨fa, fd, m, Fu, b⟩ := D.ex
  refine ⟨fa, fd, m, Fu.ok S (fun vs H Q E ⟨S, v0, ws, qs, z, a, e, _, _, _, r, _⟩ => by rw [e, List.length_cons, PyA.len r]; exact hn) fun cdv A outer s H vs Q E hr ⟨S', v0, ws, qs, z, a, e, es, ho, hqs, r, hp, q⟩ => ?_, Fu.kp, b⟩
  subst e
  obtain ⟨t, h1, h2⟩ := h fa cdv A outer s H E hr
  refine ⟨t, h1, ?_⟩
  have kn := start_knM (N := N) es ho hqs r
  refine h2 z a hp _ S' Q (fun G' y z' hz ey S1 σ1 H1 F1 v k1 r1 => ?_) S' _ H _ kn
  obtain ⟨v1, _, o1⟩ := k1.ow hz
  have e1 : z' = (f z a).2 := by rw [← ey]
  have e2 : y = (f z a).1 := by rw [← ey]
  have ef : (v1, F1 0) = (v0, qs) := (Anch.at_ o1).trans (by rw [e1, hA z a hp]; exact (Anch.at_ ho).symm)
  have ev : v1 = v0 := congrArg Prod.fst ef
  have eF : F1 0 = qs := congrArg Prod.snd ef
  rw [ev, eF] at o1
  subst e1 e2
  refine q v S1 H1 k1.s0 k1.sub (fun p o m e => k1.keep p o (by rw [if_neg m]; exact e)) (fun p o e => ?_) (fun p m => ?_) o1 r1
  · by_cases m : p ∈ qs
    · rw [(k1.off 0 p (by rw [eF]; exact m)).1, (hqs p m).1]
    · exact k1.clean p o (by rw [if_neg m]; exact e)
  · exact (k1.off 0 p (by rw [eF]; exact m)).2.2
end
end
end GL

namespace GL
open PySem PySem.Spec PyProof.Rows L2
section
variable {K : Fg} {B S0 S1 S S' : Hp} {σ : L2.St} {H H' : Hp} {F : Nat → List Addr} {G G' G1 G2 G3 : List Sl} {ta tb tc te : TE} {i j : Nat} {u : TS} {E : Ends}
section
variable {α β γ : Type} [Py α] [Py β] [Py γ]
/-! ### lists made of lists -/
theorem mk_list {p : Addr} {vs : List V} {xs : List α} {Q : VK} (k : Kn K B S0 S σ H F G) (hp : H p = none) (r : RepL K S vs xs)
    (q : ∀ p vs S' H', Same S S' → Kn K B S0 S' σ H' F G → S' p = none → B p = none → (∀ j, p ∉ F j) → H' p = some (.lst vs) → RepL K S' vs xs → Q (.ref p) H') : Q (.ref p) (upd H p (.lst vs)) := by
  obtain ⟨a, b, c⟩ := k.free hp
  exact q p vs S _ (Same.refl _) (k.raw hp) a b c upd_same r
theorem RepL.rg {K : Fg} {S : Hp} (a b : Int) : RepL K S (rgV a b) (rng a b) := by
  unfold rgV rng
  generalize (List.range (b - a).toNat) = l
  induction l with
  | nil => exact True.intro
  | cons x l ih => exact ⟨rfl, ih⟩
theorem el_rng1 {n : Int} (h : EvX K ta G n G1) (hn : RgOk 0 n) : EvL K (tLstRg (tRg1 ta)) G (rng 0 n) G1 := fun B S0 S σ H F k Q q =>
  h B S0 S σ H F k _ fun v S1 H1 e1 k1 r1 => ⟨n, r1, hn, fun p hp => mk_list k1 hp (RepL.rg 0 n) fun p vs S2 H2 e2 k2 a b c d r => q p vs S2 H2 (e1.trans e2) k2 a b c d r⟩
theorem el_rng2 {a n : Int} (ha : EvX K ta G a G1) (h : EvX K tb G1 n G2) (hn : RgOk a n) : EvL K (tLstRg (tRg2 ta tb)) G (rng a n) G2 := fun B S0 S σ H F k Q q =>
  ha B S0 S σ H F k _ fun v S1 H1 e1 k1 r1 => h B S0 S1 σ H1 F k1 _ fun w S2 H2 e2 k2 r2 => ⟨a, n, r1, r2, hn, fun p hp => mk_list k2 hp (RepL.rg a n) fun p vs S3 H3 e3 k3 a b c d r => q p vs S3 H3 ((e1.trans e2).trans e3) k3 a b c d r⟩
theorem ev_tprng1 {n : Int} (h : EvX K ta G n G1) (hn : RgOk 0 n) : EvX K (tTupRg (tRg1 ta)) G (Tp.mk (rng 0 n)) G1 := fun B S0 S σ H F k Q q =>
  h B S0 S σ H F k _ fun v S1 H1 e1 k1 r1 => ⟨n, r1, hn, fun p hp => q _ _ _ (e1.trans (same_new (k1.free hp).1)) (k1.new hp) ⟨p, _, rfl, SqT.of upd_same, RepL.rg 0 n⟩⟩
def rListS (K : Fg) : List V → Hp → VK → Prop := fun xs H Q => ∃ p ys, xs = [.ref p] ∧ (SqL K H p ys ∨ SqT K H p ys) ∧ ∀ l, H l = none → Q (.ref l) (upd H l (.lst ys))
def rTupS (K : Fg) : List V → Hp → VK → Prop := fun xs H Q => ∃ p ys, xs = [.ref p] ∧ ((SqL K H p ys ∧ ∀ l, H l = none → Q (.ref l) (upd H l (.tup ys))) ∨ (SqT K H p ys ∧ Q (.ref p) H))
theorem call_listG {X : Cx} : CallR X (.type "list") (rListS X.K) := call_list_of
theorem call_tupG {X : Cx} : CallR X (.type "tuple") (rTupS X.K) := call_tuple_of
theorem el_list {xs : List α} (h : EvC K ta G xs G1) : EvL K (tCB (rListS K) (tCons ta tNil)) G xs G1 := fun B S0 S σ H F k Q q =>
  h B S0 S σ H F k _ fun v S1 H1 e1 k1 r1 => by
    obtain ⟨p, vs, rfl, hp, hr⟩ := r1.at k1
    exact ⟨p, vs, rfl, .inl (SqL.of hp), fun l hl => mk_list k1 hl hr fun p vs S2 H2 e2 k2 a b c d r => q p vs S2 H2 (e1.trans e2) k2 a b c d r⟩
theorem el_listT {xs : Tp α} (h : EvX K ta G xs G1) : EvL K (tCB (rListS K) (tCons ta tNil)) G xs.l G1 := fun B S0 S σ H F k Q q =>
  h B S0 S σ H F k _ fun v S1 H1 e1 k1 r1 => by
    obtain ⟨p, vs, rfl, hp, hr⟩ := r1
    exact ⟨p, vs, rfl, .inr (seqT k1.sub hp), fun l hl => mk_list k1 hl hr fun p vs S2 H2 e2 k2 a b c d r => q p vs S2 H2 (e1.trans e2) k2 a b c d r⟩
theorem ev_tup {xs : List α} (h : EvC K ta G xs G1) : EvX K (tCB (rTupS K) (tCons ta tNil)) G (Tp.mk xs) G1 := fun B S0 S σ H F k Q q =>
  h B S0 S σ H F k _ fun v S1 H1 e1 k1 r1 => by
    obtain ⟨p, vs, rfl, hp, hr⟩ := r1.at k1
    exact ⟨p, vs, rfl, .inl ⟨SqL.of hp, fun l hl => q _ _ _ (e1.trans (same_new (k1.free hl).1)) (k1.new hl) ⟨l, vs, rfl, SqT.of upd_same, hr.mono (same_new (k1.free hl).1)⟩⟩⟩
theorem el_cat {xs ys : List α} (ha : EvC K ta G xs G) (hb : EvC K tb G ys G) (hz : xs.length + ys.length ≤ sizeLine) : EvL K (tOp rCat ta tb) G (xs ++ ys) G := fun B S0 S σ H F k Q q =>
  ha B S0 S σ H F k _ fun v S1 H1 e1 k1 r1 => hb B S0 S1 σ H1 F k1 _ fun w S2 H2 e2 k2 r2 => by
    obtain ⟨p, vs, rfl, hp, hr⟩ := (r1.mono e2).at k2
    obtain ⟨p', vs', rfl, hp', hr'⟩ := r2.at k2
    exact ⟨p, p', vs, vs', rfl, rfl, hp, hp', by rw [hr.len, hr'.len]; exact hz, fun l hl => mk_list k2 hl (hr.app hr') fun p vs S3 H3 e3 k3 a b c d r => q p vs S3 H3 ((e1.trans e2).trans e3) k3 a b c d r⟩
theorem el_rep {xs : List α} {n : Int} (ha : EvX K ta G xs G1) (hb : EvX K tb G1 n G2) (hn : n < 9223372036854775808 ∧ -9223372036854775808 ≤ n) (hz : xs.length * n.toNat ≤ sizeLine) : EvL K (tOp rRep ta tb) G (List.replicate n.toNat xs).flatten G2 := fun B S0 S σ H F k Q q =>
  ha B S0 S σ H F k _ fun v S1 H1 e1 k1 r1 => hb B S0 S1 σ H1 F k1 _ fun w S2 H2 e2 k2 r2 => by
    obtain ⟨p, vs, rfl, hp, hr⟩ := Py.mono e2 r1
    exact ⟨p, n, vs, rfl, r2, k2.sub _ _ hp, hn.2, hn.1, by rw [hr.len]; exact hz, fun l hl => mk_list k2 hl (hr.rep n.toNat) fun p vs S3 H3 e3 k3 a b c d r => q p vs S3 H3 ((e1.trans e2).trans e3) k3 a b c d r⟩
/-! slices of lists -/
def cutL {δ : Type} (xs : List δ) (lo hi : Option Int) : List δ := (xs.drop (HT.sIx xs.length 0 lo)).take (HT.sIx xs.length xs.length hi - HT.sIx xs.length 0 lo)
def EvO (K : Fg) (t : TO) (G : List Sl) (o : Option Int) : Prop := ∀ B S0 S σ H F, Kn K B S0 S σ H F G → ∀ Q : Option Int → Hp → Prop, (∀ S' H', Same S S' → Kn K B S0 S' σ H' F G → Q o H') → t σ H Q
theorem eo_none : EvO K tNoPart G none := fun B S0 S σ H F k Q q => q S H (Same.refl _) k
theorem eo_some {n : Int} (h : EvX K ta G n G) : EvO K (tPart ta) G (some n) := fun B S0 S σ H F k Q q => h B S0 S σ H F k _ fun v S1 H1 e1 k1 r1 => ⟨n, r1, q S1 H1 e1 k1⟩
theorem RepL.cut {vs : List V} {xs : List α} (h : RepL K S vs xs) (lo hi : Option Int) : RepL K S (cutV vs lo hi) (cutL xs lo hi) := by
  unfold cutV cutL
  rw [h.len]
  exact (h.drop _).take _
theorem el_slice {xs : List α} {tl th : TO} {lo hi : Option Int} (h : EvC K ta G xs G) (hl : EvO K tl G lo) (hh : EvO K th G hi) : EvL K (tSl (rSlL K) ta tl th) G (cutL xs lo hi) G := fun B S0 S σ H F k Q q =>
  h B S0 S σ H F k _ fun v S1 H1 e1 k1 r1 => hl B S0 S1 σ H1 F k1 _ fun S2 H2 e2 k2 => hh B S0 S2 σ H2 F k2 _ fun S3 H3 e3 k3 => by
    obtain ⟨p, vs, rfl, hp, hr⟩ := (r1.mono (e2.trans e3)).at k3
    exact ⟨p, vs, rfl, SqL.of hp, fun l hl => mk_list k3 hl (hr.cut lo hi) fun p vs S4 H4 e4 k4 a b c d r => q p vs S4 H4 (((e1.trans e2).trans e3).trans e4) k4 a b c d r⟩
/-! in -/
theorem inV_ints (x : Int) : ∀ xs : List Int, inV (.int x) (xs.map V.int) = decide (x ∈ xs)
  | [] => by simp [inV]
  | y :: xs => by
    have ih := inV_ints x xs
    unfold inV at ih ⊢
    rw [List.map_cons, List.any_cons, ih]
    by_cases e : y = x
    · subst e
      simp [eqV]
    · have : ¬ x = y := fun z => e z.symm
      simp [eqV, e, this]
theorem flat_ints : ∀ xs : List Int, (xs.map V.int).all flatV = true
  | [] => rfl
  | _ :: xs => by rw [List.map_cons, List.all_cons, flat_ints xs]; rfl
theorem ev_inL {x : Int} {xs : List Int} (ha : EvX K ta G x G) (hb : EvC K tb G xs G) : EvX K (tOp (rIn K false) ta tb) G (decide (x ∈ xs)) G := fun B S0 S σ H F k Q q =>
  ha B S0 S σ H F k _ fun v S1 H1 e1 k1 r1 => hb B S0 S1 σ H1 F k1 _ fun w S2 H2 e2 k2 r2 => by
    obtain ⟨p, vs, rfl, hp, hr⟩ := r2.at k2
    rw [hr.ints] at hp
    rw [show v = .int x from r1]
    exact ⟨p, _, rfl, .inl (SqL.of hp), rfl, flat_ints _, q _ S2 H2 (e1.trans e2) k2 (by rw [inV_ints]; rfl)⟩
theorem ev_ninL {x : Int} {xs : List Int} (ha : EvX K ta G x G) (hb : EvC K tb G xs G) : EvX K (tOp (rIn K true) ta tb) G (!decide (x ∈ xs)) G := fun B S0 S σ H F k Q q =>
  ha B S0 S σ H F k _ fun v S1 H1 e1 k1 r1 => hb B S0 S1 σ H1 F k1 _ fun w S2 H2 e2 k2 r2 => by
    obtain ⟨p, vs, rfl, hp, hr⟩ := r2.at k2
    rw [hr.ints] at hp
    rw [show v = .int x from r1]
    exact ⟨p, _, rfl, .inl (SqL.of hp), rfl, flat_ints _, q _ S2 H2 (e1.trans e2) k2 (by rw [inV_ints]; rfl)⟩
theorem ev_inT {x : Int} {xs : Tp Int} (ha : EvX K ta G x G) (hb : EvX K tb G xs G) : EvX K (tOp (rIn K false) ta tb) G (decide (x ∈ xs.l)) G := fun B S0 S σ H F k Q q =>
  ha B S0 S σ H F k _ fun v S1 H1 e1 k1 r1 => hb B S0 S1 σ H1 F k1 _ fun w S2 H2 e2 k2 r2 => by
    obtain ⟨p, vs, rfl, hp, hr⟩ := r2
    rw [hr.ints] at hp
    rw [show v = .int x from r1]
    exact ⟨p, _, rfl, .inr (seqT k2.sub hp), rfl, flat_ints _, q _ S2 H2 (e1.trans e2) k2 (by rw [inV_ints]; rfl)⟩
/-! all, any -/
theorem ev_all {bs : List Bool} (h : EvC K ta G bs G1) : EvX K (tCB (rAll K) (tCons ta tNil)) G (bs.all id) G1 := fun B S0 S σ H F k Q q =>
  h B S0 S σ H F k _ fun v S1 H1 e1 k1 r1 => by
    obtain ⟨p, vs, rfl, hp, hr⟩ := r1.at k1
    rw [hr.bls] at hp
    exact ⟨p, bs, rfl, SqL.of hp, q _ S1 H1 e1 k1 rfl⟩
theorem ev_any {bs : List Bool} (h : EvC K ta G bs G1) : EvX K (tCB (rAny K) (tCons ta tNil)) G (bs.any id) G1 := fun B S0 S σ H F k Q q =>
  h B S0 S σ H F k _ fun v S1 H1 e1 k1 r1 => by
    obtain ⟨p, vs, rfl, hp, hr⟩ := r1.at k1
    rw [hr.bls] at hp
    exact ⟨p, bs, rfl, SqL.of hp, q _ S1 H1 e1 k1 rfl⟩
/-! sorted -/
def srt (xs : List Int) : List Int := xs.mergeSort fun a b => decide (a ≤ b)
theorem srt_perm (xs : List Int) : (srt xs).Perm xs := List.mergeSort_perm xs _
theorem srt_sorted (xs : List Int) : (srt xs).Pairwise (· ≤ ·) := by
  have h := List.pairwise_mergeSort (le := fun a b : Int => decide (a ≤ b)) (fun a b c h1 h2 => by simp only [decide_eq_true_eq] at *; omega) (fun a b => by simp only [Bool.or_eq_true, decide_eq_true_eq]; omega) xs
  exact h.imp fun q => of_decide_eq_true q
theorem srt_eq {xs ys : List Int} (p : ys.Perm xs) (s : ys.Pairwise (· ≤ ·)) : ys = srt xs :=
  (p.trans (srt_perm xs).symm).eq_of_pairwise (fun a b _ _ h1 h2 => Int.le_antisymm h1 h2) s (srt_sorted xs)
theorem el_sortedI {xs : List Int} (h : EvC K ta G xs G1) : EvL K (tCB (rSortedI K) (tCons ta tNil)) G (srt xs) G1 := fun B S0 S σ H F k Q q =>
  h B S0 S σ H F k _ fun v S1 H1 e1 k1 r1 => by
    obtain ⟨p, vs, rfl, hp, hr⟩ := r1.at k1
    rw [hr.ints] at hp
    refine ⟨p, xs, rfl, SqL.of hp, fun ns l pm so hl => ?_⟩
    rw [srt_eq pm so]
    exact mk_list k1 hl (RepL.of_ints _) fun p vs S2 H2 e2 k2 a b c d r => q p vs S2 H2 (e1.trans e2) k2 a b c d r
def rSortDI : List V → Hp → VK → Prop := fun xs H Q => ∃ (a : Addr) (kvs : List (Key × V)) (ks : List Int), xs = [.ref a] ∧ Rd H a (.dK kvs) ∧ kvs.map (·.1) = ks.map Sum.inl ∧ ks.length < 64 ∧
    ∀ (ys : List Int) (p : Addr), ys.Perm ks → ys.Pairwise (· ≤ ·) → H p = none → Q (.ref p) (upd H p (.lst (ys.map V.int)))
theorem call_sortDI {X : Cx} (hc : X.calm = true) : CallR X (.builtin "sorted") rSortDI := call_sortedDI hc
theorem RepD.keys : ∀ {kvs : List (Key × V)} {xs : List (Int × α)}, RepD K S kvs xs → kvs.map (·.1) = (xs.map (·.1)).map Sum.inl
  | [], [], _ => rfl
  | _ :: _, _ :: _, h => by rw [List.map_cons, List.map_cons, List.map_cons, RepD.keys h.2.2, h.1]
  | [], _ :: _, h => h.elim
  | _ :: _, [], h => h.elim
theorem el_sortedD {d : Dct α} (h : EvD K ta G d G1) (hz : d.l.length < 64) : EvL K (tCB rSortDI (tCons ta tNil)) G (srt (d.l.map (·.1))) G1 := fun B S0 S σ H F k Q q =>
  h B S0 S σ H F k _ fun v S1 H1 e1 k1 r1 => by
    obtain ⟨p, kvs, rfl, hp, hr⟩ := r1.at k1
    refine ⟨p, kvs, d.l.map (·.1), rfl, .inl hp, hr.keys, by rw [List.length_map]; exact hz, fun ns l pm so hl => ?_⟩
    rw [srt_eq pm so]
    exact mk_list k1 hl (RepL.of_ints _) fun p vs S2 H2 e2 k2 a b c d r => q p vs S2 H2 (e1.trans e2) k2 a b c d r
theorem ev_lenD {d : Dct α} (h : EvD K ta G d G1) : EvX K (tCB (fun xs H Q => ∃ a kvs, xs = [V.ref a] ∧ H a = some (.dK kvs) ∧ Q (.int kvs.length) H) (tCons ta tNil)) G (d.l.length : Int) G1 := fun B S0 S σ H F k Q q =>
  h B S0 S σ H F k _ fun v S1 H1 e1 k1 r1 => by
    obtain ⟨p, kvs, rfl, hp, hr⟩ := r1.at k1
    exact ⟨p, kvs, rfl, hp, q _ S1 H1 e1 k1 (by rw [hr.len]; rfl)⟩
/-! pop of a list's place as a value -/
theorem ev_pop0 [Inhabited α] {xs : List α} (hl : G[i]? = some (.ow xs)) (hx : xs ≠ []) : EvX K (tBM K "list" rPopAt (tVar i) (tCons (tC (.int 0)) tNil)) G (ix xs 0) (G.set i (.ow (xs.drop 1))) := fun B S0 S σ H F k Q q => by
  obtain ⟨p, vs, h1, h2, h3, h4⟩ := own_list k hl
  cases xs with
  | nil => exact absurd rfl hx
  | cons x xs =>
    cases vs with
    | nil => exact h4.elim
    | cons v vs =>
      refine ⟨.ref p, h1, .inl ⟨rfl, _, SqL.of h3⟩, p, v :: vs, 0, 0, v, rfl, rfl, h3, by decide, by decide, ?_, rfl, q v S _ (Same.refl _) (own_listUpd k h1 h2 (vs := (v :: vs).eraseIdx 0) h4.2) h4.1⟩
      unfold seqIndex?
      simp
end

/-! ### == of data -/
class Dt (α : Type) [Py α] where
  dat : α → PyData
  dp : ∀ {K : Fg} {S H : Hp} {v : V} {x : α}, Same S H → Py.rep K S v x → Dp K H v (dat x)
  lay : ∀ x : α, (dat x).canLay0 = true
  dep : Nat
  dle : ∀ x : α, (dat x).depth ≤ dep
  eq : ∀ x y : α, (PyData.eqv (dat x) (dat y) = true) ↔ x = y
section
variable {α β γ : Type} [Py α] [Py β] [Py γ]
instance : Dt Int := ⟨PyData.int, fun _ h => by rw [show _ = V.int _ from h]; exact .int _, fun _ => rfl, 0, fun _ => Nat.le_refl _, fun x y => by simp [PyData.eqv]⟩
instance : Dt Bool := ⟨PyData.bool, fun _ h => by rw [show _ = V.bl _ from h]; exact .bl _, fun _ => rfl, 0, fun _ => Nat.le_refl _, fun x y => by simp [PyData.eqv]⟩
theorem dpAll [Dt α] (e : Same S H) : ∀ {vs : List V} {xs : List α}, RepL K S vs xs → DpAll K H vs (xs.map Dt.dat)
  | [], [], _ => .nil
  | _ :: _, _ :: _, h => .cons (Dt.dp e h.1) (dpAll e h.2)
  | [], _ :: _, h => h.elim
  | _ :: _, [], h => h.elim
theorem layAll [Dt α] : ∀ xs : List α, PyData.canLayAll0 (xs.map Dt.dat) = true
  | [] => rfl
  | x :: xs => by rw [List.map_cons, PyData.canLayAll0, Dt.lay, layAll xs]; rfl
theorem depAll [Dt α] : ∀ xs : List α, PyData.depthAll (xs.map Dt.dat) ≤ Dt.dep α
  | [] => by rw [List.map_nil, PyData.depthAll]; exact Nat.zero_le _
  | x :: xs => by
    rw [List.map_cons, PyData.depthAll]
    have h1 := Dt.dle x
    have h2 := depAll xs
    omega
theorem eqAll [Dt α] : ∀ xs ys : List α, (PyData.eqvAll (xs.map Dt.dat) (ys.map Dt.dat) = true) ↔ xs = ys
  | [], [] => by simp [PyData.eqvAll]
  | [], _ :: _ => by simp [PyData.eqvAll]
  | _ :: _, [] => by simp [PyData.eqvAll]
  | x :: xs, y :: ys => by
    rw [List.map_cons, List.map_cons, PyData.eqvAll, Bool.and_eq_true, Dt.eq, eqAll xs ys, List.cons.injEq]
instance [Dt α] : Dt (List α) := ⟨fun xs => .list (xs.map Dt.dat), fun e ⟨p, vs, h1, h2, h3⟩ => by rw [h1]; exact .lst (SqL.of (e _ _ h2)) (dpAll e h3), fun xs => by rw [PyData.canLay0]; exact layAll xs, Dt.dep α + 1,
  fun xs => by rw [PyData.depth]; exact Nat.succ_le_succ (depAll xs), fun xs ys => by rw [PyData.eqv]; exact eqAll xs ys⟩
instance [Dt α] : Dt (Tp α) := ⟨fun xs => .tuple (xs.l.map Dt.dat), fun e ⟨p, vs, h1, h2, h3⟩ => by rw [h1]; exact .tup (seqT e h2) (dpAll e h3), fun xs => by rw [PyData.canLay0]; exact layAll xs.l, Dt.dep α + 1,
  fun xs => by rw [PyData.depth]; exact Nat.succ_le_succ (depAll xs.l), fun xs ys => by
    rw [PyData.eqv, eqAll]
    cases xs; cases ys
    simp⟩
instance [Dt α] [Dt β] : Dt (α × β) := ⟨fun x => .tuple [Dt.dat x.1, Dt.dat x.2], fun e ⟨p, a, b, h1, h2, h3, h4⟩ => by rw [h1]; exact .tup (seqT e h2) (.cons (Dt.dp e h3) (.cons (Dt.dp e h4) .nil)),
  fun x => by simp [PyData.canLay0, PyData.canLayAll0, Dt.lay], max (Dt.dep α) (Dt.dep β) + 1, fun x => by
    have h1 := Dt.dle x.1
    have h2 := Dt.dle x.2
    simp only [PyData.depth, PyData.depthAll]
    omega, fun x y => by
    simp only [PyData.eqv, PyData.eqvAll, Bool.and_eq_true, Dt.eq, and_true]
    exact ⟨fun h => Prod.ext h.1 h.2, fun h => by rw [h]; exact ⟨rfl, rfl⟩⟩⟩
instance [Dt α] [Dt β] [Dt γ] : Dt (T3 α β γ) := ⟨fun x => .tuple [Dt.dat x.a, Dt.dat x.b, Dt.dat x.c], fun e ⟨p, a, b, c, h1, h2, h3, h4, h5⟩ => by rw [h1]; exact .tup (seqT e h2) (.cons (Dt.dp e h3) (.cons (Dt.dp e h4) (.cons (Dt.dp e h5) .nil))),
  fun x => by simp [PyData.canLay0, PyData.canLayAll0, Dt.lay], max (Dt.dep α) (max (Dt.dep β) (Dt.dep γ)) + 1, fun x => by
    have h1 := Dt.dle x.a
    have h2 := Dt.dle x.b
    have h3 := Dt.dle x.c
    simp only [PyData.depth, PyData.depthAll]
    omega, fun x y => by
    simp only [PyData.eqv, PyData.eqvAll, Bool.and_eq_true, Dt.eq, and_true]
    cases x; cases y
    simp⟩
theorem shapedD [Dt α] (h : Dt.dep α ≤ 64) (x : α) : SeqAt.shaped (Dt.dat x) = true := by
  unfold SeqAt.shaped
  rw [Dt.lay, decide_eq_true (Nat.le_trans (Dt.dle x) h)]
  rfl
theorem eqvD [Dt α] [DecidableEq α] (x y : α) : PyData.eqv (Dt.dat x) (Dt.dat y) = decide (x = y) := by
  by_cases e : x = y
  · rw [decide_eq_true e]
    exact (Dt.eq x y).mpr e
  · rw [decide_eq_false e]
    exact Bool.eq_false_iff.mpr fun h => e ((Dt.eq x y).mp h)
theorem ev_eqD [Dt α] [DecidableEq α] {x y : α} (ha : EvX K ta G x G1) (hb : EvX K tb G1 y G2) (h : Dt.dep α ≤ 64) : EvX K (tOp (rEqD K) ta tb) G (decide (x = y)) G2 := fun B S0 S σ H F k Q q =>
  ha B S0 S σ H F k _ fun v S1 H1 e1 k1 r1 => hb B S0 S1 σ H1 F k1 _ fun w S2 H2 e2 k2 r2 =>
    ⟨_, _, Dt.dp k2.sub (Py.mono e2 r1), Dt.dp k2.sub r2, shapedD h x, shapedD h y, q _ S2 H2 (e1.trans e2) k2 (by rw [eqvD]; rfl)⟩
theorem ev_neD [Dt α] [DecidableEq α] {x y : α} (ha : EvX K ta G x G1) (hb : EvX K tb G1 y G2) (h : Dt.dep α ≤ 64) : EvX K (tOp (rNeD K) ta tb) G (!decide (x = y)) G2 := fun B S0 S σ H F k Q q =>
  ha B S0 S σ H F k _ fun v S1 H1 e1 k1 r1 => hb B S0 S1 σ H1 F k1 _ fun w S2 H2 e2 k2 r2 =>
    ⟨_, _, Dt.dp k2.sub (Py.mono e2 r1), Dt.dp k2.sub r2, shapedD h x, shapedD h y, q _ S2 H2 (e1.trans e2) k2 (by rw [eqvD]; rfl)⟩
/-- where the left one is an owned list -/
theorem dpC [Dt α] {v : V} {xs : List α} (r : Rdl K S σ G v xs) (k : Kn K B S0 S σ H F G) : Dp K H v (Dt.dat xs) := by
  obtain ⟨p, vs, rfl, hp, hr⟩ := r.at k
  exact .lst (SqL.of hp) (dpAll k.sub hr)
theorem ev_eqC [Dt α] [DecidableEq α] {x y : List α} (ha : EvC K ta G x G) (hb : EvC K tb G y G) (h : Dt.dep (List α) ≤ 64) : EvX K (tOp (rEqD K) ta tb) G (decide (x = y)) G := fun B S0 S σ H F k Q q =>
  ha B S0 S σ H F k _ fun v S1 H1 e1 k1 r1 => hb B S0 S1 σ H1 F k1 _ fun w S2 H2 e2 k2 r2 =>
    ⟨_, _, dpC (r1.mono e2) k2, dpC r2 k2, shapedD h x, shapedD h y, q _ S2 H2 (e1.trans e2) k2 (by rw [eqvD]; rfl)⟩
theorem ev_neC [Dt α] [DecidableEq α] {x y : List α} (ha : EvC K ta G x G) (hb : EvC K tb G y G) (h : Dt.dep (List α) ≤ 64) : EvX K (tOp (rNeD K) ta tb) G (!decide (x = y)) G := fun B S0 S σ H F k Q q =>
  ha B S0 S σ H F k _ fun v S1 H1 e1 k1 r1 => hb B S0 S1 σ H1 F k1 _ fun w S2 H2 e2 k2 r2 =>
    ⟨_, _, dpC (r1.mono e2) k2, dpC r2 k2, shapedD h x, shapedD h y, q _ S2 H2 (e1.trans e2) k2 (by rw [eqvD]; rfl)⟩
end
/-! ### chains of comparisons -/
theorem ev_chain {f f' : Int → Int → Bool} {a b c : Int} (ha : EvX K ta G a G) (hb : EvX K tb G b G) (hc : EvX K tc G c G) : EvX K (tChain (rI0 fun i j => .bl (f i j)) (rI0 fun i j => .bl (f' i j)) ta tb tc) G (f a b && f' b c) G := fun B S0 S σ H F k Q q =>
  ha B S0 S σ H F k _ fun v S1 H1 e1 k1 r1 => hb B S0 S1 σ H1 F k1 _ fun w S2 H2 e2 k2 r2 => ⟨a, b, r1, r2, f a b, rfl, by
    cases hf : f a b with
    | true =>
      rw [if_pos rfl]
      exact hc B S0 S2 σ H2 F k2 _ fun x S3 H3 e3 k3 r3 => ⟨b, c, r2, r3, q _ S3 H3 ((e1.trans e2).trans e3) k3 (by rw [hf]; rfl)⟩
    | false =>
      rw [if_neg Bool.false_ne_true]
      exact q _ S2 H2 (e1.trans e2) k2 (by rw [hf]; rfl)⟩
/-! ### is None -/
theorem ev_isN {α : Type} [Py α] {x : Option α} (hx : ∀ (K : Fg) (S : Hp) (v : V) (y : α), Py.rep K S v y → v ≠ .non) (ha : EvX K ta G x G1) : EvX K (tIsN ta) G x.isNone G1 := fun B S0 S σ H F k Q q =>
  ha B S0 S σ H F k _ fun v S1 H1 e1 k1 r1 => q _ S1 H1 e1 k1 (by
    cases x with
    | none => rw [show v = .non from r1]; rfl
    | some y => exact congrArg V.bl (decide_eq_false (hx K S1 v y r1)))
theorem ev_notN {α : Type} [Py α] {x : Option α} (hx : ∀ (K : Fg) (S : Hp) (v : V) (y : α), Py.rep K S v y → v ≠ .non) (ha : EvX K ta G x G1) : EvX K (tNotN ta) G x.isSome G1 := fun B S0 S σ H F k Q q =>
  ha B S0 S σ H F k _ fun v S1 H1 e1 k1 r1 => q _ S1 H1 e1 k1 (by
    cases x with
    | none => rw [show v = .non from r1]; rfl
    | some y => exact congrArg V.bl (by rw [decide_eq_false (hx K S1 v y r1)]; rfl))
/-! ### returns of new lists -/
theorem q_retL {α : Type} [Py α] {xs : List α} (h : EvL K te G xs G1) (k : ∀ S σ H F p vs, Kn K B S0 S σ H F G1 → S p = none → B p = none → (∀ j, p ∉ F j) → H p = some (.lst vs) → RepL K S vs xs → E.rt (.ref p) H) : At K B S0 (tSeq (tRet te) u E) G := fun S σ H F kn =>
  h B S0 S σ H F kn _ fun p vs S' H' e kn' hs hb hf hp r => k S' σ H' F p vs kn' hs hb hf hp r
/-! ### the laws' springs -/
theorem ev_ixS {xs : Scr} {n : Int} (ha : EvX K ta G xs G1) (hb : EvX K tb G1 n G2) (h : 0 ≤ n ∧ n < xs.l.length) : EvX K (tOp (rIxL K) ta tb) G (ix xs.l n) G2 := fun B S0 S σ H F k Q q =>
  ha B S0 S σ H F k _ fun v S1 H1 e1 k1 r1 => hb B S0 S1 σ H1 F k1 _ fun w S2 H2 e2 k2 r2 => by
    obtain ⟨p, rfl, hp⟩ := Py.mono e2 r1
    refine ⟨p, _, n, .int (ix xs.l n), rfl, r2, k2.sub.seq hp, atI_of h.1 ?_, q _ S2 H2 (e1.trans e2) k2 rfl⟩
    rw [List.getElem?_map, ix_at h.1 h.2]
    rfl
theorem ev_spr0 {z : Spr} (hi : G[i]? = some (.ow z)) : EvX K (tOp (rIxL K) (tVar i) (tC (.int 0))) G z.z G := fun B S0 S σ H F k Q q => by
  obtain ⟨v, h1, h2, h3, h4⟩ := k.ow hi
  exact ⟨v, h1, z.a, _, 0, .int z.z, h2, rfl, SqL.of h4, atI_nat (j := 0) rfl, q _ S H (Same.refl _) k rfl⟩
theorem q_sprset {z : Spr} {n : Int} (h : EvX K te G n G) (hi : G[i]? = some (.ow z)) (k : At K B S0 (u E) (G.set i (.ow (Spr.mk z.a n)))) : At K B S0 (tSeq (tAsg te (gSub (tVar i) (tC (.int 0)) rSetL)) u E) G := fun S σ H F kn =>
  h B S0 S σ H F kn _ fun v S1 H1 e1 k1 r1 => by
    obtain ⟨w, h1, h2, h3, h4⟩ := k1.ow hi
    refine ⟨w, h1, z.a, _, 0, 0, h2, rfl, h4, rfl, k S1 σ _ F ?_⟩
    rw [show v = .int n from r1]
    refine k1.mut h1 (fun q hq => upd_ne fun e => hq (by rw [h3, e]; exact List.mem_singleton.mpr rfl)) (fun q hq => ?_) ⟨h2, h3, upd_same⟩
    rw [h3] at hq
    cases List.mem_singleton.mp hq
    exact ⟨_, upd_same⟩
theorem q_spr (i : Nat) {z : Int} (h : EvL K te G [z] G1) (hi : G1[i]?.isSome = true) (k : ∀ s : Spr, s.z = z → At K B S0 (u E) (G1.set i (.ow s))) : At K B S0 (tSeq (tAsg te (gName i)) u E) G := fun S σ H F kn =>
  h B S0 S σ H F kn _ fun p vs S' H' e kn' hs hb hf hp r => by
    have er : vs = [.int z] := by rw [r.ints]; rfl
    rw [er] at hp
    exact k ⟨p, z⟩ rfl S' _ H' _ (kn'.setOwn (v := .ref p) (x := Spr.mk p z) ⟨rfl, rfl, hp⟩ hi hs hb ⟨_, hp⟩ hf)
end
end GL

namespace GL
open PySem PySem.Spec PyProof.Rows L2
def spLaw (K : Fg) : Sp := fun vs H Q _ => ∃ (a : Addr) (ns : List Int), vs = [.ref a] ∧ SqL K H a (ns.map V.int) ∧ ns.length ≤ 63 ∧ ∀ H', Q (.bl true) H'
/-- a spring's making: some number -/
def spSpring (K : Fg) : Sp := fun vs H Q _ => ∃ (S : Hp) (a : Scr × Int × Unit), Same S H ∧ PyA.rep K S vs a ∧ (0 ≤ a.2.1 ∧ a.2.1 ≤ 1000) ∧ ∀ z p S' H', Grow S H S' H' → H p = none → S' p = none → H' p = some (.lst [.int z]) → Q (.ref p) H'
section
variable {P : Program} {w : World} {K : Fg} {mg : Str → Option Value} {base : Heap}
theorem fn_law {st : Stmt} {fa : Addr} {fd : FuncData} {N : List Str} {k : Nat} (F : Fun K "law" "law" st fa fd) (S : FnScope N ["script"] (defScope st))
    (h : ∀ (cdv : Value) (A : Around) (outer : List Env) (s : Shared) (H : Hp) (E : XK), Room k (A.deeper (envOfC "law" (defScope st) s.heap.objs.size fa cdv)) →
      ∃ t, PSs (cxOf CX0 P w K mg base N "law" (defScope st) fa cdv A outer s H E).nox (defBody st) t ∧
        ∀ (a : Scr), a.l.length ≤ 63 → ∀ (B S0 : Hp) (Q : VK), (∀ (G' : List Sl) (y : Bool), y = true → RT K B S0 Q y G') → At K B S0 (t { nx := fun _ H' => Q .non H', rt := Q }) (.im a :: List.replicate (N.length - 1) .no)) :
    FnOk P w K mg base CX0 (k + 1) fa fd ["script"] (spLaw K) := by
  refine F.ok S (fun vs H Q E ⟨a, ns, e, _⟩ => by rw [e]; rfl) fun cdv A outer s H vs Q E hr ⟨a, ns, e, hs, hl, q⟩ => ?_
  subst e
  obtain ⟨t, h1, h2⟩ := h cdv A outer s H E hr
  have kn := start_kn (K := K) (H := H) (S := H) (vs := [.ref a]) (a := ((⟨ns⟩, ()) : Scr × Unit)) (N := N) (Same.refl _) ⟨.ref a, [], rfl, ⟨a, rfl, hs⟩, rfl⟩
  refine ⟨t, h1, h2 ⟨ns⟩ hl H H Q (fun G' y ey S1 σ1 H1 F1 v k1 r1 => ?_) H _ H _ kn⟩
  rw [show v = .bl y from r1, ey]
  exact q H1
theorem def_spring {x : Str} {st : Stmt} {N ps : List Str} {k : Nat} (D : Def K mg x st ps) (S : FnScope N ps (defScope st)) (hn : 2 = ps.length)
    (h : ∀ (fa : Addr) (cdv : Value) (A : Around) (outer : List Env) (s : Shared) (H : Hp) (E : XK), Room k (A.deeper (envOfC x (defScope st) s.heap.objs.size fa cdv)) →
      ∃ t, PSs (cxOf CX0 P w K mg base N x (defScope st) fa cdv A outer s H E).nox (defBody st) t ∧
        ∀ (scr : Scr) (n : Int), 0 ≤ n → n ≤ 1000 → ∀ (B S0 : Hp) (Q : VK), (∀ (z : Int) (G' : List Sl) S σ H F p vs, Kn K B S0 S σ H F G' → S p = none → B p = none → (∀ j, p ∉ F j) → H p = some (.lst vs) → RepL K S vs [z] → Q (.ref p) H) →
          At K B S0 (t { nx := fun _ H' => Q .non H', rt := Q }) (.im scr :: .im n :: List.replicate (N.length - 2) .no)) :
    Cal P w K mg base (k + 1) x ps (spSpring K) := by
  obtain ⟨fa, fd, m, Fu, b⟩ := D.ex
  refine ⟨fa, fd, m, Fu.ok S (fun vs H Q E ⟨S, a, _, r, _⟩ => (PyA.len r).trans hn) fun cdv A outer s H vs Q E hr ⟨S', a, e, r, hp, q⟩ => ?_, Fu.kp, b⟩
  obtain ⟨t, h1, h2⟩ := h fa cdv A outer s H E hr
  obtain ⟨scr, n, u⟩ := a
  refine ⟨t, h1, h2 scr n hp.1 hp.2 H S' Q (fun z G' S1 σ1 H1 F1 p vs k1 hs hb hf hp r1 => ?_) S' _ H _ (start_kn e r)⟩
  have er : vs = [.int z] := by rw [r1.ints]; rfl
  rw [er] at hp
  exact q z p S1 H1 ⟨k1.s0, k1.sub, k1.keep, k1.clean⟩ hb hs hp
end
section
variable {K : Fg} {B S0 : Hp} {G G1 : List Sl} {t : TA} {E : XK} {u : TS} {D : Ends}
theorem q_spring (i : Nat) {scr : Scr} {n : Int} (ha : EvA K t G (scr, n, ()) G1) (hp : 0 ≤ n ∧ n ≤ 1000) (hi : G1[i]?.isSome = true) (k : ∀ s : Spr, At K B S0 (u D) (G1.set i (.ow s))) : At K B S0 (tSeq (tAsg (tCall (spSpring K) [] E t) (gName i)) u D) G := fun S σ H F kn =>
  ha B S0 S σ H F kn _ fun vs S1 H1 e1 k1 r1 => by
    show spSpring K (vs ++ []) H1 _ E
    rw [List.append_nil]
    refine ⟨S1, _, k1.sub, r1, hp, fun z p S2 H2 g hn hs h2 => ?_⟩
    obtain ⟨_, b, c⟩ := k1.free hn
    exact k ⟨p, z⟩ S2 _ H2 _ ((k1.grow g).setOwn (v := .ref p) (x := Spr.mk p z) ⟨rfl, rfl, h2⟩ hi hs b ⟨_, h2⟩ c)
end
@[irreducible] def lawCup (z : Spr) (m : Int) : Int × Spr := (z.z % m, ⟨z.a, z.z / m⟩)
theorem cup_bd (z : Spr) {m : Int} (h : 0 < m) : 0 ≤ (lawCup z m).1 ∧ (lawCup z m).1 < m := by
  unfold lawCup
  exact ⟨Int.emod_nonneg _ (by omega), Int.emod_lt_of_pos _ h⟩
theorem cup_a (z : Spr) (m : Int) : (lawCup z m).2.a = z.a := by unfold lawCup; rfl
theorem cup_ex {z z' : Spr} {m : Int} (_ : z' = (lawCup z m).2) (h : 0 < m) : ∃ d, (lawCup z m).1 = d ∧ 0 ≤ d ∧ d < m := ⟨_, rfl, cup_bd z h⟩
theorem le_line {n : Nat} (h : n ≤ 1000000) : n ≤ sizeLine := Nat.le_trans h (by decide)
theorem lt_line {n : Nat} (h : n ≤ 1000000) : n < sizeLine := Nat.lt_of_le_of_lt h (by decide)
theorem cup_fact {z z' : Spr} {m : Int} (_ : z' = (lawCup z m).2) (h : 0 < m) : 0 ≤ (lawCup z m).1 ∧ (lawCup z m).1 < m := cup_bd z h
end GL

namespace GL
open PySem PySem.Spec PyProof.Rows L2
theorem tuple_mul0 (l : Addr) (items : Array Value) (n : Nat) (dd : Option Addr) (sl : Array (Option Value)) (x : Int) (u : Tok) (c0 : (decide (x < -(2 ^ 63)) || decide (x ≥ 2 ^ 63)) = false) (c1 : (items.isEmpty || x == 1) = false) (c2 : (decide (x ≤ 0) || items.isEmpty) = true) :
    Meets (Builtin.«tuple.__mul__» ⟨[.ref l, .int x u], []⟩) (fun _ R s => s.heap.get? l = some { cls := .type "tuple", dict := dd, data := .seq items n, slots := sl } ∧
      R (.ok (.ret (Value.ref s.heap.objs.size))) { s with heap := s.heap.push { cls := Value.type "tuple", data := Data.seq #[] }, toks := s.toks }) :=
  .of_wp fun prog w A R s h => by
    obtain ⟨hp, g, d, tk, os⟩ := s
    obtain ⟨hl, h⟩ := h
    have f1 := AutoSeq1.idx_int
    wp_walk using wpAny_loadPart' hl
    repeat (first
      | (refine wpAny_ite_false (decide_eq_false (by rw [c0]; exact Bool.false_ne_true)) ?_; wp_walk using wpAny_loadPart' hl)
      | (refine wpAny_ite_false (decide_eq_false (by rw [c1]; exact Bool.false_ne_true)) ?_; wp_walk using wpAny_loadPart' hl)
      | (refine wpAny_ite_true (decide_eq_true c2) ?_; wp_walk using wpAny_loadPart' hl)
      | (refine wpAny_ite_false (decide_eq_false (by decide)) ?_; wp_walk using wpAny_loadPart' hl))
    exact ⟨_, rfl, h⟩
theorem tuple_mul1 (l : Addr) (items : Array Value) (n : Nat) (dd : Option Addr) (sl : Array (Option Value)) (u : Tok) :
    Meets (Builtin.«tuple.__mul__» ⟨[.ref l, .int 1 u], []⟩) (fun _ R s => s.heap.get? l = some { cls := .type "tuple", dict := dd, data := .seq items n, slots := sl } ∧ R (.ok (.ret (Value.ref l))) s) :=
  .of_wp fun prog w A R s h => by
    obtain ⟨hp, g, d, tk, os⟩ := s
    obtain ⟨hl, h⟩ := h
    have f1 := AutoSeq1.idx_int
    wp_walk using wpAny_loadPart' hl
    repeat (first
      | (refine wpAny_ite_false (decide_eq_false (by decide)) ?_; wp_walk using wpAny_loadPart' hl)
      | (refine wpAny_ite_true (decide_eq_true (by rw [Bool.or_eq_true]; exact .inr rfl)) ?_; wp_walk using wpAny_loadPart' hl))
    exact ⟨_, rfl, h⟩
def rRepTA (K : Fg) : R2 := fun x y H Q => ∃ l k xs, x = .ref l ∧ y = .int k ∧ SqT K H l xs ∧ xs ≠ [] ∧ -1000 ≤ k ∧ k ≤ 1000 ∧ xs.length ≤ 1000 ∧ (k ≤ 0 → ∀ p, H p = none → Q (.ref p) (upd H p (.tup []))) ∧ (k = 1 → Q (.ref l) H) ∧
  (2 ≤ k → ∀ p, H p = none → Q (.ref p) (upd H p (.tup (List.replicate k.toNat xs).flatten)))
theorem op_repTA {X : Cx} : OpR X (binaryOp .Mult) (rRepTA X.K) := by
  intro pins s σ H x y v u Q I rx ry h
  obtain ⟨l, k, xs, rfl, rfl, hT, hne, h0, h2, hz, q0, q1, q2⟩ := h
  by_cases hk : 2 ≤ k
  · exact op_repT pins s σ H _ _ v u Q I rx ry ⟨l, k, xs, rfl, rfl, hT, hne, hk, h2, hz, q2 hk⟩
  cases rx
  obtain ⟨t, rfl⟩ := ry
  obtain ⟨its, r, ⟨⟨cls, dd, data, sl⟩, ho, hc, n, hd⟩, hs⟩ := I.tuple hT
  simp only at hc hd
  subst hc hd
  have hle : its.length = xs.length := r.length.symm
  have hn : its ≠ [] := fun e => hne (by
    rw [e] at hle
    exact List.eq_nil_of_length_eq_zero hle.symm)
  have hi : its.toArray.isEmpty = false := by
    cases its with
    | nil => exact absurd rfl hn
    | cons a b => rfl
  have c0 : (decide (k < -(2 ^ 63)) || decide (k ≥ 2 ^ 63)) = false := by
    rw [decide_eq_false (by omega), decide_eq_false (by omega)] <;> rfl
  by_cases hk1 : k = 1
  · subst hk1
    refine wpAny_binaryOp_repeat_ref (T := "tuple") (U := "int") (by decide) ⟨_, ho, rfl⟩ (fun s' => typeIs_int s' 1 t) noFill_tuple_mul F.fills_int_mul F.slot_int_rmul repeat_tuple F.slot_int_index.lookup
      (call_meets F.slot_int_rmul (typeIs_int s 1 t) F.entry_int_rmul (F.args_int_rmul_2 _ _) (int_rmul_tuple 1 t l its.toArray n dd sl)
        ⟨ho, rfl, ⟨_, ho, rfl⟩, call_meets F.slot_tuple_mul ⟨_, ho, rfl⟩ F.entry_tuple_mul (F.args_tuple_mul_2 _ _) (tuple_mul1 l its.toArray n dd sl t) ⟨ho, ?_⟩⟩)
    exact ⟨.ref l, H, I, rfl, q1 rfl⟩
  · have c1 : (its.toArray.isEmpty || k == 1) = false := by
      rw [hi, Bool.false_or]
      exact beq_eq_false_iff_ne.mpr hk1
    have c2 : (decide (k ≤ 0) || its.toArray.isEmpty) = true := by
      rw [hi, Bool.or_false]
      exact decide_eq_true (by omega)
    refine wpAny_binaryOp_repeat_ref (T := "tuple") (U := "int") (by decide) ⟨_, ho, rfl⟩ (fun s' => typeIs_int s' k t) noFill_tuple_mul F.fills_int_mul F.slot_int_rmul repeat_tuple F.slot_int_index.lookup
      (call_meets F.slot_int_rmul (typeIs_int s k t) F.entry_int_rmul (F.args_int_rmul_2 _ _) (int_rmul_tuple k t l its.toArray n dd sl)
        ⟨ho, rfl, ⟨_, ho, rfl⟩, call_meets F.slot_tuple_mul ⟨_, ho, rfl⟩ F.entry_tuple_mul (F.args_tuple_mul_2 _ _) (tuple_mul0 l its.toArray n dd sl k t c0 c1 c2) ⟨ho, ?_⟩⟩)
    refine ⟨.ref s.heap.objs.size, _, I.laid (t' := s.toks) (o := .tup []) (fun b ob q => Heap.get?_push_of_some _ q) (Nat.le_refl _) ?_, rfl, q0 (by omega) _ (I.hok.fresh (Nat.le_refl _))⟩
    exact ⟨Nat.zero_le _, [], .nil, IsTup.new _ _⟩
section
variable {K : Fg} {G G1 G2 : List Sl} {ta tb : TE} {α : Type} [Py α]
theorem ev_repT {xs : Tp α} {k : Int} (ha : EvX K ta G xs G1) (hb : EvX K tb G1 k G2) (hx : xs.l ≠ []) (hl : xs.l.length ≤ 1000) (h0 : -1000 ≤ k) (h1 : k ≤ 1000) : EvX K (tOp (rRepTA K) ta tb) G (Tp.mk (List.replicate k.toNat xs.l).flatten) G2 := fun B S0 S σ H F kn Q q =>
  ha B S0 S σ H F kn _ fun v S1 H1 e1 k1 r1 => hb B S0 S1 σ H1 F k1 _ fun w S2 H2 e2 k2 r2 => by
    obtain ⟨p, vs, rfl, hp, hr⟩ := Py.mono e2 r1
    have hlen := hr.len
    refine ⟨p, k, vs, rfl, r2, seqT k2.sub hp, fun e => hx (List.eq_nil_of_length_eq_zero (by rw [← hlen, e]; rfl)), h0, h1, by omega, fun hk p' hp' => ?_, fun hk => ?_, fun hk p' hp' => ?_⟩
    · have e0 : k.toNat = 0 := by omega
      have s3 := same_new (o := .tup []) (k2.free hp').1
      exact q _ _ _ ((e1.trans e2).trans s3) (k2.new hp') ⟨p', [], rfl, SqT.of upd_same, by rw [e0]; exact True.intro⟩
    · subst hk
      exact q _ S2 H2 (e1.trans e2) k2 ⟨p, vs, rfl, hp, by
        show RepL K S2 vs (List.replicate 1 xs.l).flatten
        simp
        exact hr⟩
    · have s3 := same_new (o := .tup (List.replicate k.toNat vs).flatten) (k2.free hp').1
      exact q _ _ _ ((e1.trans e2).trans s3) (k2.new hp') ⟨p', _, rfl, SqT.of upd_same, (hr.rep k.toNat).mono s3⟩
end
end GL

set_option maxHeartbeats 4000000
namespace L2
open PySem PySem.Spec PyProof.Rows
section
variable {P : Program} {w : World} {A : Around} {E : Value → Shared → Prop} {s : Shared}
/-- set(xs), xs a list of whole numbers, with the set's table -/
theorem call_set_lstI {l : Addr} {items : Array Value} (ns : List Int) {Q : Value → Shared → Prop} (hh : A.handled = none) (hl : s.heap.IsList l items) (hit : IntsAre items.toList ns) (hb : ns.length + 1 < scanBound)
    (h : ∀ (h' : Heap) (tk c : Nat), SetR w h' s.heap.objs.size (fun j => decide (j ∈ ns)) c → c ≤ ns.length → (∀ b o, s.heap.get? b = some o → h'.get? b = some o) → Q (.ref s.heap.objs.size) { s with heap := h', toks := tk }) :
    wpAny (model P w) A (call (.type "set") [.ref l]) Q E s := by
  have hisz : items.size = ns.length := by
    have q := IntsAre.length hit
    rw [Array.length_toList] at q
    exact q
  obtain ⟨c, tl, hmro⟩ := F.called_set.mro
  have hmade := F.called_set.made
  have hsub := F.called_set.sub
  refine wpAny_call (codeAny_of_tree ?_)
  show wpAny _ _ (callAny (.type "set") _) _ _ _
  refine wpAny_pure ⟨Code.quiet_builtin _ (by decide +kernel), codeAny_builtin F.entry_type_call ?_⟩
  rw [Around.under_plain (weight_type_call_type "set" [.ref l] []) rfl]
  have h1 := F.called_set.notType
  have h2 := F.called_set.canCreate
  have hct := F.typeCall_set_1 (.ref l)
  repeat (any_goals (first | assumption | wp_step))

  refine codeAny_mono (code_set_led1 (.ref l) (E := E) (Q₁ := fun obj s₁ => obj = .ref s.heap.objs.size ∧ s₁ = { s with heap := s.heap.push { cls := .type "set", dict := none, data := .set #[] 0 (.fresh 0 0 (!w.params.followText "set-order")) } }) ⟨rfl, rfl⟩) fun r s₁ hr => ?_
  cases r with
  | error e => exact hr
  | ok fl =>
    cases fl with
    | ret obj =>
      obtain ⟨rfl, rfl⟩ := hr
      have hS : (s.heap.push { cls := .type "set", dict := none, data := .set #[] 0 (.fresh 0 0 (!w.params.followText "set-order")) }).get? s.heap.objs.size = some { cls := .type "set", dict := none, data := .set #[] 0 (.fresh 0 0 (!w.params.followText "set-order")) } := Heap.get?_push_size _ rfl
      have hT : Shared.TypeIs { s with heap := s.heap.push { cls := .type "set", dict := none, data := .set #[] 0 (.fresh 0 0 (!w.params.followText "set-order")) } } (.ref s.heap.objs.size) "set" := ⟨_, hS, rfl⟩
      have hli := F.called_set.init.lookup
      have hbi := F.called_set.init.bind (.ref s.heap.objs.size)
      repeat (any_goals (first | assumption | wp_step))

      refine codeAny_mono (codeAny_call_builtin (R := wants (fun r s₂ => r = .none ∧ ∃ h' tk c, s₂ = { s with heap := h', toks := tk } ∧ SetR w h' s.heap.objs.size (fun j => decide (j ∈ ns)) c ∧ c ≤ ns.length ∧
          (∀ b o, s.heap.get? b = some o → h'.get? b = some o)) E) F.called_set.init.plain F.entry_set_init (check_set_init_1 hT ?_)) fun r₂ s₂ hr₂ => ?_
      · obtain ⟨ol, hol, hcl, nl, hdl⟩ := hl
        obtain ⟨ocls, odict, odata, oslots⟩ := ol
        simp only at hcl hdl
        subst hcl; subst hdl
        have hol' : (s.heap.push { cls := .type "set", dict := none, data := .set #[] 0 (.fresh 0 0 (!w.params.followText "set-order")) }).get? l = some { cls := .type "list", dict := odict, data := .seq items nl, slots := oslots } := Heap.get?_push_of_some _ hol
        have hsls := F.sub_list_set
        have hslf := F.sub_list_frozenset
        have hne : (Value.type "list" == Value.type "dict") = false := by decide
        have hl1 : (s.heap.push { cls := .type "set", dict := none, data := .set #[] 0 (.fresh 0 0 (!w.params.followText "set-order")) }).IsList l items := ⟨_, hol', rfl, nl, rfl⟩
        unfold Builtin.«set.__init__» noKeywords Builtin.Frozenset.updateFrom
        generalize hPI : pyIter = PI
        wp_walk
        subst hPI

        refine wpAny_pyIter_list hl1 ?_
        refine wpAny_bind (wpAny_runValue ?_)
        have hlS : l < s.heap.objs.size := Heap.lt_size hol
        have hh3 : A.in1.in1.in1.handled = none := by simp [hh]
        have hneI : l ≠ (s.heap.push { cls := .type "set", dict := none, data := .set #[] 0 (.fresh 0 0 (!w.params.followText "set-order")) }).objs.size := by
          rw [Heap.size_push]; exact Nat.ne_of_lt (Nat.lt_succ_of_lt hlS)
        have hSf : s.heap.objs.size ∉ [(s.heap.push { cls := .type "set", dict := none, data := .set #[] 0 (.fresh 0 0 (!w.params.followText "set-order")) }).objs.size, l] := by
          rw [Heap.size_push]; simp only [List.mem_cons, List.mem_singleton, List.not_mem_nil, or_false, not_or]
          exact ⟨Nat.ne_of_lt (Nat.lt_succ_self _), Nat.ne_of_gt hlS⟩
        have hval : ∀ (i : Nat) (v : Value), items[i]? = some v → ∃ k t, ns[i]? = some k ∧ v = .int k t := fun i v hv => by
          have hi : i < ns.length := by rw [← hisz]; exact (Array.getElem?_eq_some_iff.mp hv).1
          obtain ⟨t, e⟩ := PyProof.Rows.IntsAre.int_at hit i v (by rw [Array.getElem?_toList]; exact hv)
          refine ⟨ns[i], t, List.getElem?_eq_getElem hi, ?_⟩
          rw [e, List.getD_eq_getElem?_getD, List.getElem?_eq_getElem hi] <;> rfl
        refine set_update_ints ((Walks.list hh3 _ l hneI items).toS) s.heap.objs.size
          hSf ns hisz hb hval (items.size - 0) 0 _ (by omega) (Nat.zero_le _)
          ⟨⟨_, Heap.get?_push_size _ rfl, rfl, rfl⟩, (hl1.push _)⟩ ?hS0 ?hR
        case hS0 =>
          exact ⟨0, Nat.le_refl 0, setR_new_at (Heap.get?_push_of_some _ hS)⟩
        case hR =>
          intro s' c' hm hc' hS'
          obtain ⟨h', g2, d', tk', os'⟩ := s'
          have eg : g2 = s.gens := hm.gens
          have ed : d' = s.drawn := hm.drawn
          have eo : os' = s.os := hm.os
          subst eg; subst ed; subst eo
          show wpAny _ _ _ _ _ _
          refine wpAny_pure ?_
          show wpAny _ _ (ret Value.none) _ _ _
          rw [hisz] at hc'
          refine wpAny_pure ⟨rfl, h', tk', c', rfl, hS', hc', fun b o e => ?_⟩
          have hb0 : b < s.heap.objs.size := Heap.lt_size e
          have hb1 : b ≠ s.heap.objs.size := Nat.ne_of_lt hb0
          have hb2 : b ≠ (s.heap.push { cls := .type "set", dict := none, data := .set #[] 0 (.fresh 0 0 (!w.params.followText "set-order")) }).objs.size := by
            rw [Heap.size_push]; exact Nat.ne_of_lt (Nat.lt_succ_of_lt hb0)
          exact hm.heap b o (by simp only [List.mem_cons, List.mem_singleton, List.not_mem_nil, or_false, not_or]; exact ⟨hb1, hb2⟩) (Heap.get?_push_of_some _ (Heap.get?_push_of_some _ e))

      · cases r₂ with
        | error e => exact hr₂
        | ok fl₂ =>
          cases fl₂ with
          | ret r =>
            obtain ⟨rfl, h', tk, c', rfl, hS', hc', hk'⟩ := hr₂
            repeat (any_goals (first | assumption | wp_step))
            exact h _ _ _ hS' hc' hk'
          | _ => exact hr₂.elim
    | _ => exact hr.elim
end
section
variable {X : Cx}
/-- sorted(set(xs)), xs a list of whole numbers -/
def tSortSet (K : PySem.W.Frag) (ta : TE) : TE := fun σ H Q => ta σ H fun x H1 => ∃ (l : Addr) (ns : List Int), x = V.ref l ∧ SqL K H1 l (ns.map V.int) ∧ ns.length < 64 ∧
  ∀ (ms : List Int) (p : Addr), ms.Pairwise (· < ·) → (∀ k : Int, k ∈ ms ↔ k ∈ ns) → H1 p = none → Q (.ref p) (upd H1 p (.lst (ms.map V.int)))
theorem pe_sortSet {a : Expr} {ta : TE} {p p2 q pos : Pos} (hc : X.calm = true) (hg : Gl X "sorted") (hm : X.mg "sorted" = none) (hg2 : Gl X "set") (hm2 : X.mg "set" = none) (ha : PE X a ta)
    (na : starEach [a] X.env = (false, eval a X.env) :: starEach [] X.env := by rfl) : PE X (.Call (.Name "sorted" p) [.Call (.Name "set" p2) [a] [] q] [] pos) (tSortSet X.K ta) := by
  refine ⟨fun pins s σ H Q I h => ?_⟩
  refine Call_ (ld_blt I hg hm PyProof.Rows.boot_sorted ?_)
  refine PyProof.Rows.callWith_builtin1 (PyProof.Rows.args_cons ?_ rfl) rfl rfl
  refine Call_ (ld_blt I hg2 hm2 PyProof.Rows.boot_set ?_)
  refine PyProof.Rows.callWith_type1 (PyProof.Rows.args_cons (thn (ha.run pins s σ H _ I h) fun v s1 ⟨x, H1, I1, r1, q1⟩ => PyProof.Rows.args_nil ?_) na) na rfl
  obtain ⟨l, ns, rfl, hq, h1, q1⟩ := q1
  cases r1
  obtain ⟨its, r, pl, hz⟩ := I1.list hq
  refine call_set_lstI ns (I1.ok.hd hc) pl.isList (by simpa using r.ints) (by unfold scanBound; omega) fun h' tk c R hcn hk => ?_
  refine PyProof.Rows.args_nil ?_
  have I2 : Inv X pins σ H1 { s1 with heap := h', toks := tk } := I1.kept hk
  refine sorted_set R (I2.ok.hd hc) (by omega) fun s' p out c ms k g o hp hg hi hs hm hl => ?_
  have hlen : (ms.map V.int).length ≤ sizeLine := by rw [List.length_map, hl, sizeLine_eq]; omega
  have hn : H1 p = none := I2.hok.fresh hp
  have J : Inv X pins σ (upd H1 p (.lst (ms.map V.int))) { { s1 with heap := h', toks := tk } with heap := s'.heap, gens := s'.gens, drawn := s'.drawn, toks := s'.toks } :=
    I2.call (ch := []) (Un.laid k hp hn) (I2.hok.laid k hp ⟨hlen, out.toList, c, vals_of_ints hi, hg⟩) (by rw [g]; exact I2.bare) (fun _ z => nomatch z)
  have e : s' = { { s1 with heap := h', toks := tk } with heap := s'.heap, gens := s'.gens, drawn := s'.drawn, toks := s'.toks } := by
    cases s'
    cases s1
    cases o
    rfl
  rw [e]
  exact ⟨.ref p, _, J, rfl, q1 ms p hs (fun k => by rw [hm k]; exact decide_eq_true_iff) hn⟩
end
end L2
namespace GL
open PySem PySem.Spec PyProof.Rows L2
section
variable {K : Fg} {B S0 S1 S S' : Hp} {σ : L2.St} {H H' : Hp} {F : Nat → List Addr} {G G' G1 G2 G3 : List Sl} {ta tb tc te : TE} {i j : Nat} {u : TS} {E : Ends}
/-- sorted, each once -/
def usrt (xs : List Int) : List Int := srt xs.eraseDups
theorem mem_usrt {xs : List Int} {k : Int} : k ∈ usrt xs ↔ k ∈ xs := by
  unfold usrt
  rw [(srt_perm _).mem_iff, List.mem_eraseDups]
theorem nodup_eraseDups (xs : List Int) : xs.eraseDups.Nodup := by
  generalize hn : xs.length = n
  induction n using Nat.strongRecOn generalizing xs with
  | _ n ih =>
    cases xs with
    | nil => simp
    | cons a l =>
      rw [List.eraseDups_cons]
      refine List.nodup_cons.mpr ⟨?_, ih _ ?_ _ rfl⟩
      · rw [List.mem_eraseDups, List.mem_filter]; simp
      · have := List.length_filter_le (fun b => !b == a) l
        simp only [List.length_cons] at hn
        omega
theorem pw_lt_unique : ∀ {xs ys : List Int}, xs.Pairwise (· < ·) → ys.Pairwise (· < ·) → (∀ k, k ∈ xs ↔ k ∈ ys) → xs = ys
  | [], [], _, _, _ => rfl
  | [], y :: ys, _, _, h => absurd ((h y).mpr List.mem_cons_self) (by simp)
  | x :: xs, [], _, _, h => absurd ((h x).mp List.mem_cons_self) (by simp)
  | x :: xs, y :: ys, hx, hy, h => by
    have hx' := List.pairwise_cons.mp hx
    have hy' := List.pairwise_cons.mp hy
    have e : x = y := by
      rcases List.mem_cons.mp ((h x).mp List.mem_cons_self) with e | e
      · exact e
      · rcases List.mem_cons.mp ((h y).mpr List.mem_cons_self) with e2 | e2
        · exact e2.symm
        · have := hx'.1 _ e2; have := hy'.1 _ e; omega
    subst e
    rw [pw_lt_unique hx'.2 hy'.2 fun k => ?_]
    constructor
    · intro hk
      rcases List.mem_cons.mp ((h k).mp (List.mem_cons_of_mem _ hk)) with e | e
      · have := hx'.1 _ hk; omega
      · exact e
    · intro hk
      rcases List.mem_cons.mp ((h k).mpr (List.mem_cons_of_mem _ hk)) with e | e
      · have := hy'.1 _ hk; omega
      · exact e
theorem usrt_pw (xs : List Int) : (usrt xs).Pairwise (· < ·) := by
  have h1 := srt_sorted xs.eraseDups
  have h2 : (srt xs.eraseDups).Nodup := (srt_perm _).symm.nodup (nodup_eraseDups xs)
  exact (h1.and h2).imp fun ⟨a, b⟩ => by omega
theorem usrt_eq {xs ys : List Int} (h : ys.Pairwise (· < ·)) (m : ∀ k, k ∈ ys ↔ k ∈ xs) : ys = usrt xs := pw_lt_unique h (usrt_pw xs) fun k => (m k).trans mem_usrt.symm
theorem el_sortSet {xs : List Int} (h : EvC K ta G xs G1) (hz : xs.length < 64) : EvL K (tSortSet K ta) G (usrt xs) G1 := fun B S0 S σ H F k Q q =>
  h B S0 S σ H F k _ fun v S1 H1 e1 k1 r1 => by
    obtain ⟨p, vs, h1, h2, h3⟩ := r1.at k1
    refine ⟨p, xs, h1, SqL.of (by rw [h2, h3.ints]), hz, fun ms p' hp hm hf => ?_⟩
    rw [usrt_eq hp hm]
    exact mk_list k1 hf (RepL.of_ints _) fun p vs S2 H2 e2 k2 a b c d r => q p vs S2 H2 (e1.trans e2) k2 a b c d r
end
end GL

namespace GL
open PySem PySem.Spec PyProof.Rows L2
section
variable {K : Fg} {B S0 S1 S S' : Hp} {σ : L2.St} {H H' : Hp} {F : Nat → List Addr} {G G' G1 G2 G3 : List Sl} {ta tb tc te : TE} {i j : Nat} {u : TS} {D : Ends}
/-! ### isinstance -/
class Ty (α : Type) [Py α] (n : outParam String) where
  ty : ∀ {K : Fg} {S H : Hp} {v : V} {x : α}, Same S H → Py.rep K S v x → TyX K H v (.type n)
theorem tyT {p : Addr} {vs : List V} (e : Same S H) (h : SqT K S p vs) : TyX K H (.ref p) (.type "tuple") := by
  rcases seqT e h with (h | ⟨o, h⟩) | ⟨o, its, n, h1, h2, _⟩
  · exact .base (.tup h)
  · exact .fTuple h
  · exact .kTuple h1 h2
instance : Ty Int "int" := ⟨fun _ h => by rw [show _ = V.int _ from h]; exact .base (.int _)⟩
instance : Ty Bool "bool" := ⟨fun _ h => by rw [show _ = V.bl _ from h]; exact .base (.bl _)⟩
instance : Ty Str "str" := ⟨fun _ h => by rw [show _ = V.str _ from h]; exact .base (.str _)⟩
instance {α : Type} [Py α] : Ty (List α) "list" := ⟨fun e ⟨p, vs, h1, h2, _⟩ => by rw [h1]; exact .base (.lst (e _ _ h2))⟩
instance {α : Type} [Py α] : Ty (Tp α) "tuple" := ⟨fun e ⟨p, vs, h1, h2, _⟩ => by rw [h1]; exact tyT e h2⟩
instance {α β : Type} [Py α] [Py β] : Ty (α × β) "tuple" := ⟨fun e ⟨p, a, b, h1, h2, _⟩ => by rw [h1]; exact tyT e h2⟩
instance {α β γ : Type} [Py α] [Py β] [Py γ] : Ty (T3 α β γ) "tuple" := ⟨fun e ⟨p, a, b, c, h1, h2, _⟩ => by rw [h1]; exact tyT e h2⟩
theorem ev_isi {α : Type} [Py α] {n c : String} [Ty α n] {x : α} {b : Bool} (ha : EvX K ta G x G1) (h : kitB n c = some b) : EvX K (tCB (rIsi K) (tCons ta (tCons (tC (.ty c)) tNil))) G b G1 := fun B S0 S σ H F k Q q =>
  ha B S0 S σ H F k _ fun v S1 H1 e1 k1 r1 => ⟨v, .ty c, .type n, .type c, b, rfl, .ty c, Ty.ty k1.sub r1, kit_ty h, q _ S1 H1 e1 k1 rfl⟩
theorem ev_isiC {α : Type} [Py α] {c : String} {x : List α} {b : Bool} (ha : EvC K ta G x G1) (h : kitB "list" c = some b) : EvX K (tCB (rIsi K) (tCons ta (tCons (tC (.ty c)) tNil))) G b G1 := fun B S0 S σ H F k Q q =>
  ha B S0 S σ H F k _ fun v S1 H1 e1 k1 r1 => by
    obtain ⟨p, vs, rfl, hp, _⟩ := r1.at k1
    exact ⟨_, .ty c, .type "list", .type c, b, rfl, .ty c, .base (.lst hp), kit_ty h, q _ S1 H1 e1 k1 rfl⟩
/-! len of tuples of a known shape -/
theorem ev_lenP {α β : Type} [Py α] [Py β] {x : α × β} (ha : EvX K ta G x G1) : EvX K (tCB (rLenS K) (tCons ta tNil)) G (2 : Int) G1 := fun B S0 S σ H F k Q q =>
  ha B S0 S σ H F k _ fun v S1 H1 e1 k1 r1 => by
    obtain ⟨p, a, b, rfl, hp, _⟩ := r1
    exact ⟨p, _, rfl, .inr (seqT k1.sub hp), q _ S1 H1 e1 k1 rfl⟩
theorem ev_len3 {α β γ : Type} [Py α] [Py β] [Py γ] {x : T3 α β γ} (ha : EvX K ta G x G1) : EvX K (tCB (rLenS K) (tCons ta tNil)) G (3 : Int) G1 := fun B S0 S σ H F k Q q =>
  ha B S0 S σ H F k _ fun v S1 H1 e1 k1 r1 => by
    obtain ⟨p, a, b, c, rfl, hp, _⟩ := r1
    exact ⟨p, _, rfl, .inr (seqT k1.sub hp), q _ S1 H1 e1 k1 rfl⟩
/-! ### a comprehension that turns an owned thing -/
inductive Bk (vs : List Nat) : Nat → List Sl → List Sl → List Sl → Prop
  | n {i : Nat} : Bk vs i [] [] []
  | a {i : Nat} {s o : Sl} {G' G4 G : List Sl} (h : i ∉ vs) : Bk vs (i + 1) G' G4 G → Bk vs i (s :: G') (s :: G4) (o :: G)
  | b {i : Nat} {s o : Sl} {G' G4 G : List Sl} (h : s.isOw = false) : Bk vs (i + 1) G' G4 G → Bk vs i (s :: G') (o :: G4) (s :: G)
theorem Bk.get {vs : List Nat} : ∀ {i : Nat} {Gn G4 G : List Sl}, Bk vs i Gn G4 G → ∀ (j : Nat) (sl : Sl), Gn[j]? = some sl → (i + j ∉ vs ∧ G4[j]? = some sl) ∨ (sl.isOw = false ∧ G[j]? = some sl)
  | _, _, _, _, .n, j, sl, e => by simp at e
  | i, _, _, _, .a h t, 0, sl, e => by
    simp only [List.getElem?_cons_zero, Option.some.injEq] at e
    subst e
    exact .inl ⟨h, rfl⟩
  | i, _, _, _, .b h t, 0, sl, e => by
    simp only [List.getElem?_cons_zero, Option.some.injEq] at e
    subst e
    exact .inr ⟨h, rfl⟩
  | i, _, _, _, .a h t, j + 1, sl, e => by
    have := Bk.get t j sl (by simpa using e)
    rw [show i + 1 + j = i + (j + 1) by omega] at this
    simpa using this
  | i, _, _, _, .b h t, j + 1, sl, e => by
    have := Bk.get t j sl (by simpa using e)
    rw [show i + 1 + j = i + (j + 1) by omega] at this
    simpa using this
theorem Bk.len {vs : List Nat} : ∀ {i : Nat} {Gn G4 G : List Sl}, Bk vs i Gn G4 G → Gn.length = G.length
  | _, _, _, _, .n => rfl
  | _, _, _, _, .a _ t => by rw [List.length_cons, List.length_cons, t.len]
  | _, _, _, _, .b _ t => by rw [List.length_cons, List.length_cons, t.len]
def mapX {τ α β : Type} (e : τ → α → β) (step : τ → α → τ) (xs : List α) (s0 : τ) : List β × τ := xs.foldl (fun a x => (a.1 ++ [e a.2 x], step a.2 x)) ([], s0)
theorem mapX_snd {τ α β : Type} (e : τ → α → β) (step : τ → α → τ) (xs : List α) (s0 : τ) : (mapX e step xs s0).2 = xs.foldl step s0 := by
  unfold mapX
  have : ∀ (l : List α) (a : List β) (s : τ), (l.foldl (fun (a : List β × τ) x => (a.1 ++ [e a.2 x], step a.2 x)) (a, s)).2 = l.foldl step s := by
    intro l
    induction l with
    | nil => intro a s; rfl
    | cons x l ih => intro a s; exact ih _ _
  exact this xs [] s0
theorem mapX_all {τ α β : Type} {e : τ → α → β} {step : τ → α → τ} (P : β → Prop) (h : ∀ s x, P (e s x)) (xs : List α) (s0 : τ) : ∀ y ∈ (mapX e step xs s0).1, P y := by
  unfold mapX
  have : ∀ (l : List α) (a : List β) (s : τ), (∀ y ∈ a, P y) → ∀ y ∈ (l.foldl (fun (a : List β × τ) x => (a.1 ++ [e a.2 x], step a.2 x)) (a, s)).1, P y := by
    intro l
    induction l with
    | nil => intro a s ha; exact ha
    | cons x l ih =>
      intro a s ha
      refine ih _ _ fun y hy => ?_
      rcases List.mem_append.mp hy with q | q
      · exact ha y q
      · rw [List.mem_singleton.mp q]
        exact h s x
  exact this xs [] s0 (fun y hy => by simp at hy)
theorem mapX_len {τ α β : Type} (e : τ → α → β) (step : τ → α → τ) (xs : List α) (s0 : τ) : (mapX e step xs s0).1.length = xs.length := by
  unfold mapX
  have : ∀ (l : List α) (a : List β) (s : τ), (l.foldl (fun (a : List β × τ) x => (a.1 ++ [e a.2 x], step a.2 x)) (a, s)).1.length = a.length + l.length := by
    intro l
    induction l with
    | nil => intro a s; rfl
    | cons x l ih =>
      intro a s
      rw [List.foldl_cons, ih]
      simp only [List.length_append, List.length_cons, List.length_nil]
      omega
  rw [this]
  simp
theorem mapX_inv {τ α β : Type} {e : τ → α → β} {step : τ → α → τ} (P : τ → Prop) (h : ∀ s x, P s → P (step s x)) (xs : List α) (s0 : τ) (h0 : P s0) : P (mapX e step xs s0).2 := by
  rw [mapX_snd]
  induction xs generalizing s0 with
  | nil => exact h0
  | cons x xs ih => exact ih _ (h s0 x h0)
theorem el_lcE {α β τ : Type} [Py α] [Py β] {wi : TI} {g : TG} {te : TE} {vs : List Nat} {xs : List α} (γ : τ → List Sl) (s0 : τ) (step : τ → α → τ) (e : τ → α → β) (hi : ItG K wi G xs (γ s0)) (hl : xs.length ≤ 1000000)
    (hs : ∀ x s, x ∈ xs → ∃ G2 ts, TgG K g x (wipeG (γ s) vs) G2 ts ∧ (∀ t ∈ ts, t ∈ vs) ∧ ∃ G4, EvX K te G2 (e s x) G4 ∧ Bk vs 0 (γ (step s x)) G4 (γ s)) :
    EvL K (tLc wi g tYes te vs) G (mapX e step xs s0).1 (γ (mapX e step xs s0).2) := by
  have h := el_lcX (K := K) (wi := wi) (g := g) (tt := tYes) (te := te) (vs := vs) (G := G) γ s0 step (fun _ _ => true) e hi hl fun pre x post ex s hs' => by
    obtain ⟨G2, ts, tg, hts, G4, he, bk⟩ := hs x s (by rw [← ex]; exact List.mem_append_right _ List.mem_cons_self)
    refine ⟨G2, ts, tg, hts, G2, G4, et_yes, fun _ => he, (fun h => nomatch h), fun j sl hj => ?_, bk.len⟩
    have := bk.get j sl hj
    rw [Nat.zero_add] at this
    exact this
  simp only [if_true] at h
  rw [mapX_snd]
  exact h
/-! ### a def that turns its first argument, told by a relation -/
def spR {ω α β : Type} [Own ω] [Anch ω] [PyA α] [Py β] (K : Fg) (ω' : Type := ω) (R : α → β → Prop) (pre : α → Prop) : Sp := fun vs H Q _ => ∃ (S : Hp) (v0 : V) (ws : List V) (ps : List Addr) (z : ω) (a : α), vs = v0 :: ws ∧ Same S H ∧ Own.own K S H v0 ps z ∧
  (∀ p ∈ ps, S p = none ∧ ∃ o, H p = some o) ∧ PyA.rep K S ws a ∧ pre a ∧ ∀ v S' H' (y : β) (z' : ω), R a y → Anch.fp z' = Anch.fp z → Same S S' → Same S' H' → (∀ p o, p ∉ ps → H p = some o → H' p = some o) → (∀ p o, H p = some o → S' p = S p) → (∀ p ∈ ps, ∃ o, H' p = some o) →
    Own.own K S' H' v0 ps z' → Py.rep K S' v y → Q v H'
abbrev spRS {α β : Type} [PyA α] [Py β] (K : Fg) (R : α → β → Prop) (pre : α → Prop) : Sp := spR (ω := Spr) K Spr R pre
section
variable {α β : Type} [PyA α] [Py β] {R : α → β → Prop} {pre : α → Prop} {z z1 : Spr} {a : α} {t : TA} {E : XK} {g : TG}
theorem q_rel (j : Nat) (hj : G[j]? = some (.ow z)) (ha : EvA K t G a G1) (hj1 : G1[j]? = some (.ow z1)) (hp : pre a) (k : ∀ y (z' : Spr), R a y → z'.a = z1.a → ∃ G2 ts, TgG K g y (G1.set j (.ow z')) G2 ts ∧ At K B S0 (u D) G2) :
    At K B S0 (tSeq (tAsg (tCall (spRS K R pre) [] E (tCons (tVar j) t)) g) u D) G := fun S σ H F kn => by
  obtain ⟨v0, h1, h2⟩ := kn.ow hj
  refine ⟨v0, h1, ha B S0 S σ H F kn _ fun vs S1 H1 e1 k1 r1 => ?_⟩
  show spRS K R pre (v0 :: vs ++ []) H1 _ E
  rw [List.append_nil]
  obtain ⟨v1, h3, h4⟩ := k1.ow hj1
  rw [h1] at h3
  cases h3
  refine ⟨S1, v0, vs, F j, z1, a, rfl, k1.sub, h4, fun p hp => ⟨(k1.off j p hp).1, (k1.off j p hp).2.2⟩, r1, hp, fun v S2 H2 y z' hR hfp s1 s2 hk hc hl ho r2 => ?_⟩
  have hH : ∀ p o, p ∉ F j → H1 p = some o → H2 p = some o := hk
  have k2 : Kn K B S0 S2 σ H2 F (G1.set j (.ow z')) := by
    refine ⟨k1.s0.trans s1, s2, fun p o e => ?_, fun p o e => (hc p o (k1.keep p o e)).trans (k1.clean p o e), fun i p hp => ?_, k1.dj, by rw [List.length_set]; exact k1.len, fun i s e => ?_⟩
    · exact hH p o (fun m => by rw [(k1.off j p m).2.1] at e; cases e) (k1.keep p o e)
    · obtain ⟨a1, a2, o, a3⟩ := k1.off i p hp
      refine ⟨(hc p o a3).trans a1, a2, ?_⟩
      by_cases m : p ∈ F j
      · exact hl p m
      · exact ⟨o, hH p o m a3⟩
    · rcases set_get e with ⟨rfl, rfl⟩ | ⟨ne, e⟩
      · exact ⟨v0, h1, ho⟩
      · have w := k1.sl i s e
        cases s with
        | no => exact True.intro
        | im y =>
          obtain ⟨u, b1, b2⟩ := w
          exact ⟨u, b1, Py.mono s1 b2⟩
        | ow y =>
          obtain ⟨u, b1, b2⟩ := w
          refine ⟨u, b1, Own.mono s1 (fun p hp => ?_) b2⟩
          obtain ⟨_, _, o, a3⟩ := k1.off i p hp
          rw [a3]
          exact hH p o (fun m => ne (k1.dj i j p hp m)) a3
  have ea : z'.a = z1.a := by
    have := congrArg Prod.fst hfp
    exact V.ref.inj this
  obtain ⟨G2, ts, tg, hat⟩ := k y z' hR ea
  exact tg.2 B S0 S2 σ H2 F v k2 r2 _ fun σ' k3 _ _ => hat S2 σ' H2 F k3
end
end
section
variable {P : Program} {w : World} {K : Fg} {mg : Str → Option Value} {base : Heap} {α β : Type} [Sls α] [Py β]
theorem def_spR {x : Str} {st : Stmt} {N ps : List Str} {k : Nat} {R : α → β → Prop} {pre : α → Prop} (D : Def K mg x st ps) (S : FnScope N ps (defScope st)) (hn : PyA.n α + 1 = ps.length)
    (h : ∀ (fa : Addr) (cdv : Value) (A : Around) (outer : List Env) (s : Shared) (H : Hp) (E : XK), Room k (A.deeper (envOfC x (defScope st) s.heap.objs.size fa cdv)) →
      ∃ t, PSs (cxOf CX0 P w K mg base N x (defScope st) fa cdv A outer s H E).nox (defBody st) t ∧
        ∀ (z : Spr) (a : α), pre a → ∀ (B S0 : Hp) (Q : VK), (∀ (G' : List Sl) (y : β) (z' : Spr), G'[0]? = some (.ow z') → z'.a = z.a → R a y → RT K B S0 Q y G') → At K B S0 (t { nx := fun _ H' => Q .non H', rt := Q }) (.ow z :: Sls.sls a ++ List.replicate (N.length - (PyA.n α + 1)) .no)) :
    Cal P w K mg base (k + 1) x ps (spRS K R pre) := by
  obtain ⟨fa, fd, m, Fu, b⟩ := D.ex
  refine ⟨fa, fd, m, Fu.ok S (fun vs H Q E ⟨S, v0, ws, qs, z, a, e, _, _, _, r, _⟩ => by rw [e, List.length_cons, PyA.len r]; exact hn) fun cdv A outer s H vs Q E hr ⟨S', v0, ws, qs, z, a, e, es, ho, hqs, r, hp, q⟩ => ?_, Fu.kp, b⟩
  subst e
  obtain ⟨t, h1, h2⟩ := h fa cdv A outer s H E hr
  refine ⟨t, h1, ?_⟩
  have kn := start_knM (N := N) es ho hqs r
  refine h2 z a hp _ S' Q (fun G' y z' hz ea hR S1 σ1 H1 F1 v k1 r1 => ?_) S' _ H _ kn
  obtain ⟨v1, _, o1⟩ := k1.ow hz
  have hfp : Anch.fp z' = Anch.fp z := by
    show (V.ref z'.a, [z'.a]) = (V.ref z.a, [z.a])
    rw [ea]
  have ef : (v1, F1 0) = (v0, qs) := (Anch.at_ o1).trans (by rw [hfp]; exact (Anch.at_ ho).symm)
  have ev : v1 = v0 := congrArg Prod.fst ef
  have eF : F1 0 = qs := congrArg Prod.snd ef
  rw [ev, eF] at o1
  refine q v S1 H1 y z' hR hfp k1.s0 k1.sub (fun p o m e => k1.keep p o (by rw [if_neg m]; exact e)) (fun p o e => ?_) (fun p m => ?_) o1 r1
  · by_cases m : p ∈ qs
    · rw [(k1.off 0 p (by rw [eF]; exact m)).1, (hqs p m).1]
    · exact k1.clean p o (by rw [if_neg m]; exact e)
  · exact (k1.off 0 p (by rw [eF]; exact m)).2.2
end
theorem cup_ex' {z z' : Spr} {m : Int} (e : z' = (lawCup z m).2) (h : 0 < m) : ∃ d, (lawCup z m).1 = d ∧ 0 ≤ d ∧ d < m ∧ z'.a = z.a := ⟨_, rfl, (cup_bd z h).1, (cup_bd z h).2, by rw [e]; exact cup_a z m⟩
end GL
namespace GL
open PySem PySem.Spec PyProof.Rows L2
theorem pe_cal0 {X : Cx} {j k : Nat} {x : Str} {ps : List Str} {sp : Sp} {p pos : Pos} (c : Cal X.prog X.w X.K X.mg X.base k x ps sp) (hr : Room j X.A) (hk : k ≤ j) (hg : Gl X x) (hd : (x == ("__debug__" : Str)) = false := by decide) :
    PE X (.Call (.Name x p) [] [] pos) (tCall sp [] E0 tNil) := by
  obtain ⟨f, fd, a, b, c, d⟩ := c.ex
  exact pe_call0 b (hr.mono hk) hg a c d .nil pass0 hd
end GL

namespace GL
open PySem PySem.Spec PyProof.Rows L2
section
variable {K : Fg} {B S0 S1 S S' : Hp} {σ : L2.St} {H H' : Hp} {F : Nat → List Addr} {G G' G1 G2 G3 : List Sl} {ta tb tc te : TE} {i j : Nat} {u : TS} {E : Ends}
/-! ### what may be None -/
theorem ev_isiO {α : Type} [Py α] {n c : String} [Ty α n] {x : Option α} {b b0 : Bool} (ha : EvX K ta G x G1) (h : kitB n c = some b) (h0 : kitB "NoneType" c = some b0) : EvX K (tCB (rIsi K) (tCons ta (tCons (tC (.ty c)) tNil))) G (if x.isSome then b else b0) G1 := fun B S0 S σ H F k Q q =>
  ha B S0 S σ H F k _ fun v S1 H1 e1 k1 r1 => by
    cases x with
    | none => exact ⟨v, .ty c, .type "NoneType", .type c, b0, rfl, .ty c, by rw [show v = .non from r1]; exact .base .non, kit_ty h0, q _ S1 H1 e1 k1 rfl⟩
    | some y => exact ⟨v, .ty c, .type n, .type c, b, rfl, .ty c, Ty.ty (x := y) k1.sub r1, kit_ty h, q _ S1 H1 e1 k1 rfl⟩
theorem EvX.get {α : Type} [Py α] [Inhabited α] {x : Option α} (ha : EvX K ta G x G1) (h : x.isSome = true) : EvX K ta G (x.getD default) G1 := fun B S0 S σ H F k Q q =>
  ha B S0 S σ H F k _ fun v S1 H1 e1 k1 r1 => q v S1 H1 e1 k1 (by
    cases x with
    | none => exact absurd h Bool.false_ne_true
    | some y => exact r1)
theorem nn_int : ∀ (K : Fg) (S : Hp) (v : V) (y : Int), Py.rep K S v y → v ≠ .non := fun K S v y r e => by
  have h : v = .int y := r
  rw [h] at e
  cases e
theorem nn_list {α : Type} [Py α] : ∀ (K : Fg) (S : Hp) (v : V) (y : List α), Py.rep K S v y → v ≠ .non := fun K S v y ⟨p, _, r, _⟩ e => by
  rw [r] at e
  cases e
instance : Dt Unit := ⟨fun _ => PyData.none, fun _ h => by rw [show _ = V.non from h]; exact .non, fun _ => rfl, 0, fun _ => Nat.le_refl _, fun x y => by simp [PyData.eqv]⟩
instance : Dt (Option Int) := ⟨fun x => match x with | none => PyData.none | some y => PyData.int y, fun {K S H v x} _ h => by
    cases x with
    | none => rw [show _ = V.non from h]; exact .non
    | some y => rw [show _ = V.int y from h]; exact .int _, fun x => by cases x <;> rfl, 0, fun x => by cases x <;> exact Nat.le_refl _, fun x y => by cases x <;> cases y <;> simp [PyData.eqv]⟩
/-! ### the greatest of a list -/
def maxL : List Int → Int
  | [] => 0
  | x :: xs => xs.foldl max x
theorem le_foldl_max : ∀ (xs : List Int) (a : Int), a ≤ xs.foldl max a
  | [], a => Int.le_refl a
  | x :: xs, a => Int.le_trans (Int.le_max_left a x) (le_foldl_max xs (max a x))
theorem mem_foldl_max : ∀ (xs : List Int) (a y : Int), y ∈ xs → y ≤ xs.foldl max a
  | x :: xs, a, y, h => by
    rcases List.mem_cons.mp h with e | e
    · rw [e]; exact Int.le_trans (Int.le_max_right a x) (le_foldl_max xs (max a x))
    · exact mem_foldl_max xs (max a x) y e
theorem foldl_max_mem : ∀ (xs : List Int) (a : Int), xs.foldl max a = a ∨ xs.foldl max a ∈ xs
  | [], a => .inl rfl
  | x :: xs, a => by
    rcases foldl_max_mem xs (max a x) with e | e
    · rw [List.foldl_cons, e]
      by_cases h : a ≤ x
      · rw [Int.max_eq_right h]; exact .inr List.mem_cons_self
      · rw [Int.max_eq_left (by omega)]; exact .inl rfl
    · exact .inr (List.mem_cons_of_mem _ e)
theorem maxL_mem {xs : List Int} (h : xs ≠ []) : maxL xs ∈ xs := by
  cases xs with
  | nil => exact absurd rfl h
  | cons x xs =>
    rcases foldl_max_mem xs x with e | e
    · rw [show maxL (x :: xs) = xs.foldl max x from rfl, e]; exact List.mem_cons_self
    · exact List.mem_cons_of_mem _ e
theorem le_maxL {xs : List Int} {y : Int} (h : y ∈ xs) : y ≤ maxL xs := by
  cases xs with
  | nil => exact absurd h (by simp)
  | cons x xs =>
    rcases List.mem_cons.mp h with e | e
    · rw [e]; exact le_foldl_max xs x
    · exact mem_foldl_max xs x y e
theorem maxL_eq {xs : List Int} {m : Int} (h : m ∈ xs) (g : ∀ y ∈ xs, y ≤ m) : m = maxL xs :=
  Int.le_antisymm (le_maxL h) (g _ (maxL_mem (by intro e; rw [e] at h; simp at h)))
theorem ev_maxL {xs : List Int} (h : EvC K ta G xs G1) (hx : xs ≠ []) : EvX K (tCB (rMax K) (tCons ta tNil)) G (maxL xs) G1 := fun B S0 S σ H F k Q q =>
  h B S0 S σ H F k _ fun v S1 H1 e1 k1 r1 => by
    obtain ⟨p, vs, h1, h2, h3⟩ := r1.at k1
    refine ⟨p, xs, by rw [h1], SqL.of (by rw [h2, h3.ints]), List.length_pos_iff.mpr hx, fun m hm hg => ?_⟩
    rw [maxL_eq hm hg]
    exact q _ _ _ e1 k1 rfl
end
end GL

set_option maxHeartbeats 4000000
namespace L2
open PySem PySem.Spec PyProof.Rows
/-- pairs of whole numbers, in order -/
def le2 (a b : Int × Int) : Prop := a.1 < b.1 ∨ (a.1 = b.1 ∧ a.2 ≤ b.2)
section
variable {X : Cx}
/-- sorted(xs), xs a list of pairs of whole numbers -/
def rSort2 (K : PySem.W.Frag) : List V → Hp → VK → Prop := fun vs H Q => ∃ (a : Addr) (xs : List V), vs = [V.ref a] ∧ SqL K H a xs ∧ (∀ x ∈ xs, ∃ m n : Int, TupI K H x [m, n]) ∧
  ∀ (ys : List V) (p : Addr), ys.Perm xs → ys.Pairwise (fun x y => ∀ m n m' n', TupI K H x [m, n] → TupI K H y [m', n'] → le2 (m, n) (m', n')) → H p = none → Q (.ref p) (upd H p (.lst ys))
theorem two_of {pins : List (Addr × Obj)} {σ : St} {H : Hp} {s : Shared} (I : Inv X pins σ H s) {t : Addr} {m n : Int} (h : SqT X.K H t [V.int m, V.int n]) :
    ∃ (o : Obj) (c : Nat) (u1 u2 : Tok), s.heap.get? t = some o ∧ o.cls = .type "tuple" ∧ o.data = .seq #[Value.int m u1, Value.int n u2] c := by
  obtain ⟨its, rv, hT, _⟩ := I.tuple h
  obtain ⟨o, ho, hc, c, hd⟩ := hT
  cases rv with
  | cons r1 rv =>
    cases rv with
    | cons r2 rv =>
      cases rv
      obtain ⟨u1, e1⟩ := r1
      obtain ⟨u2, e2⟩ := r2
      subst e1; subst e2
      exact ⟨o, c, u1, u2, ho, hc, hd⟩
theorem tupsOf_all {h : Heap} : ∀ {vs : List Value}, (∀ v ∈ vs, ∃ f, TupOf h (fun _ => false) v f) → ∃ fs, TupsOf h (fun _ => false) vs fs
  | [], _ => ⟨[], .nil⟩
  | v :: vs, q => by
    obtain ⟨f, hf⟩ := q v List.mem_cons_self
    obtain ⟨fs, hfs⟩ := tupsOf_all fun w hw => q w (List.mem_cons_of_mem _ hw)
    exact ⟨f :: fs, .cons hf hfs⟩
theorem cr_sort2 : CallR X (.builtin "sorted") (rSort2 X.K) := by
  intro pins s σ H vs us Q I r h
  obtain ⟨a, xs, rfl, hs, hx, q⟩ := h
  obtain ⟨its, rv, hl, hz⟩ := I.list hs
  rw [Vals.ref1 r]
  obtain ⟨e1, e2⟩ := bkV_refs rv fun x m => by
    obtain ⟨_, _, t, e, _⟩ := hx x m
    exact ⟨t, e⟩
  have hat : ∀ v ∈ its, ∃ t m n, v = .ref t ∧ SqT X.K H t [V.int m, V.int n] := fun v hv => by
    obtain ⟨t, rfl⟩ := e2 v hv
    have hm : V.ref t ∈ xs := by
      rw [e1]
      exact List.mem_map.mpr ⟨_, hv, rfl⟩
    obtain ⟨m, n, t', e, ht⟩ := hx _ hm
    cases e
    exact ⟨t, m, n, rfl, ht⟩
  have hkey : ∀ v ∈ its, ∀ t m n, v = .ref t → SqT X.K H t [V.int m, V.int n] → G.tupKeyC s.heap (fun _ => false) v = some [Sum.inl m, Sum.inl n] := fun v hv t m n e ht => by
    obtain ⟨o, c, u1, u2, ho, hc, hd⟩ := two_of I ht
    rw [e]
    exact G.tupKeyC_of ho hc hd rfl
  obtain ⟨fs, hfs⟩ := tupsOf_all (h := s.heap) (vs := its) fun v hv => by
    obtain ⟨t, m, n, rfl, ht⟩ := hat v hv
    obtain ⟨o, c, u1, u2, ho, hc, hd⟩ := two_of I ht
    exact ⟨.int m u1, t, o, _, c, rfl, ho, hc, hd, rfl, fun _ => ⟨m, u1, rfl⟩, fun z => absurd z Bool.false_ne_true⟩
  have hkk : ∀ v, v ∈ its → ∃ l, G.tupKeyC s.heap (fun _ => false) v = some l := fun v hv => by
    obtain ⟨t, m, n, e, ht⟩ := hat v hv
    exact ⟨_, hkey v hv t m n e ht⟩
  have hz' : its.length ≤ sizeLine := by rw [← rv.length]; exact hz
  refine G.sorted_tups (shape := fun _ => false) (fs := fs) hl.isList hfs hkk hz' fun st' a1 a2 a3 => ?_
  have hper : (arrOf st').toList.Perm (its.map fun v => (v, v)) := by
    have e := Array.perm_iff_toList_perm.mp a1
    rw [pairsOf_toList] at e
    refine e.trans (List.Perm.of_eq ?_)
    rw [List.zip_eq_zipWith, List.zipWith_self]
  have hp1 : (((arrOf st').map (·.2)).toList).Perm its := by
    rw [Array.toList_map]
    have := hper.map (·.2)
    rw [List.map_map] at this
    refine this.trans (List.Perm.of_eq ?_)
    exact (List.map_congr_left fun v _ => rfl).trans (List.map_id its)
  have hmem : ∀ p ∈ (arrOf st').toList, p.1 = p.2 ∧ p.2 ∈ its := fun p hp => by
    obtain ⟨v, hv, rfl⟩ := List.mem_map.mp (hper.mem_iff.mp hp)
    exact ⟨rfl, hv⟩
  have hsz : (arrOf st').size = (pairsOf its).size := by rw [← Array.length_toList, ← Array.length_toList]; exact (Array.perm_iff_toList_perm.mp a1).length_eq
  have hpw := keyLe_of_sorted (κ := G.tupKindC s.heap (fun _ => false)) (xs := arrOf st') (fun p hp => by
    obtain ⟨e, hv⟩ := hmem p hp
    rw [e]
    exact hkk _ hv) (by rw [hsz]; exact a2)
  obtain ⟨ep, he'⟩ := PyProof.Rows.sortedAll_at s.heap its ((arrOf st').map (·.2))
  have h3 : ∀ u ∈ ((arrOf st').map (·.2)).toList, ∃ a, u = Value.ref a := fun u hu => e2 u (hp1.mem_iff.mp hu)
  have hp : (((arrOf st').map (·.2)).toList.map bkV).Perm xs := by
    rw [e1]
    exact hp1.map bkV
  have hlen : (((arrOf st').map (·.2)).toList.map bkV).length ≤ sizeLine := by
    rw [hp.length_eq]
    exact hz
  refine ⟨.ref _, upd H (s.heap.objs.size + 1) (.lst (((arrOf st').map (·.2)).toList.map bkV)), I.laid (t' := s.toks) (fun _ _ => PyProof.Rows.sortedAll_old) (Nat.le_succ _) ⟨hlen, _, ep, bkV_vals h3, he'⟩, rfl, q _ _ hp ?_ (I.hok.fresh (Nat.le_succ _))⟩
  rw [Array.toList_map, List.map_map, List.pairwise_map]
  refine List.Pairwise.imp_of_mem (fun {p p'} hm hm' hle m n m' n' hn hn' => ?_) hpw
  obtain ⟨x1, x2⟩ := hmem p hm
  obtain ⟨y1, y2⟩ := hmem p' hm'
  obtain ⟨t, et, ht⟩ := hn
  obtain ⟨t', et', ht'⟩ := hn'
  have eu := bkV_ref et
  have ev := bkV_ref et'
  obtain ⟨k1, k2, hk1, hk2, hk⟩ := hle
  have z1 := hkey p.2 x2 t m n eu ht
  have z2 := hkey p'.2 y2 t' m' n' ev ht'
  rw [x1] at hk1
  rw [y1] at hk2
  have f1 : k1 = [Sum.inl m, Sum.inl n] := Option.some.inj (hk1.symm.trans z1)
  have f2 : k2 = [Sum.inl m', Sum.inl n'] := Option.some.inj (hk2.symm.trans z2)
  rw [f1, f2] at hk
  have hk' : lexLt itemOrd [Sum.inl m', Sum.inl n'] [Sum.inl m, Sum.inl n] = false := hk
  rw [lex_false] at hk'
  obtain ⟨g1, g2⟩ := hk'
  have g1' := of_decide_eq_false (show decide (m' < m) = false from g1)
  rcases g2 with g2 | g2
  · exact .inl (of_decide_eq_true (show decide (m < m') = true from g2))
  · rw [lex_false] at g2
    have g2' := of_decide_eq_false (show decide (n' < n) = false from g2.1)
    show m < m' ∨ (m = m' ∧ n ≤ n')
    omega
end
end L2
namespace GL
open PySem PySem.Spec PyProof.Rows L2
section
variable {K : Fg} {B S0 S1 S S' : Hp} {σ : L2.St} {H H' : Hp} {F : Nat → List Addr} {G G' G1 G2 G3 : List Sl} {ta tb tc te : TE} {i j : Nat} {u : TS} {E : Ends}
def le2b (a b : Int × Int) : Bool := decide (a.1 < b.1) || (decide (a.1 = b.1) && decide (a.2 ≤ b.2))
theorem le2b_iff {a b : Int × Int} : le2b a b = true ↔ le2 a b := by
  unfold le2b le2
  simp only [Bool.or_eq_true, Bool.and_eq_true, decide_eq_true_eq]
/-- sorted, of pairs -/
@[irreducible] def srt2 (xs : List (Int × Int)) : List (Int × Int) := xs.mergeSort le2b
theorem srt2_perm (xs : List (Int × Int)) : (srt2 xs).Perm xs := by unfold srt2; exact List.mergeSort_perm xs _
theorem srt2_sorted (xs : List (Int × Int)) : (srt2 xs).Pairwise le2 := by
  unfold srt2
  have h := List.pairwise_mergeSort (le := le2b) (fun a b c h1 h2 => by rw [le2b_iff] at *; unfold le2 at *; omega) (fun a b => by rw [Bool.or_eq_true, le2b_iff, le2b_iff]; unfold le2; omega) xs
  exact h.imp fun q => le2b_iff.mp q
theorem le2_anti {a b : Int × Int} (h1 : le2 a b) (h2 : le2 b a) : a = b := by
  unfold le2 at *
  exact Prod.ext (by omega) (by omega)
theorem srt2_eq {xs ys : List (Int × Int)} (p : ys.Perm xs) (s : ys.Pairwise le2) : ys = srt2 xs :=
  (p.trans (srt2_perm xs).symm).eq_of_pairwise (fun a b _ _ h1 h2 => le2_anti h1 h2) s (srt2_sorted xs)
theorem RepL.perm {α : Type} [Py α] : ∀ {vs ws : List V}, ws.Perm vs → ∀ {xs : List α}, RepL K S vs xs → ∃ ys : List α, ys.Perm xs ∧ RepL K S ws ys := by
  intro vs ws p
  induction p with
  | nil => intro xs h; exact ⟨xs, .refl _, h⟩
  | cons v p ih =>
    intro xs h
    cases xs with
    | nil => exact h.elim
    | cons x xs =>
      obtain ⟨ys, h1, h2⟩ := ih h.2
      exact ⟨x :: ys, h1.cons x, h.1, h2⟩
  | swap v w l =>
    intro xs h
    match xs, h with
    | x :: y :: xs, h => exact ⟨y :: x :: xs, .swap x y xs, h.2.1, h.1, h.2.2⟩
  | trans p1 p2 ih1 ih2 =>
    intro xs h
    obtain ⟨ys, h1, h2⟩ := ih2 h
    obtain ⟨zs, h3, h4⟩ := ih1 h2
    exact ⟨zs, h3.trans h1, h4⟩
theorem rep2 {v : V} {x : Int × Int} (e : Same S H) (h : Py.rep K S v x) : TupI K H v [x.1, x.2] := by
  obtain ⟨p, a, b, h1, h2, h3, h4⟩ := h
  have e3 : a = .int x.1 := h3
  have e4 : b = .int x.2 := h4
  subst e3; subst e4
  exact ⟨p, h1, seqT e h2⟩
theorem pw_le2 (e : Same S H) : ∀ {vs : List V} {xs : List (Int × Int)}, RepL K S vs xs → vs.Pairwise (fun x y => ∀ m n m' n', TupI K H x [m, n] → TupI K H y [m', n'] → le2 (m, n) (m', n')) → xs.Pairwise le2
  | [], [], _, _ => List.Pairwise.nil
  | v :: vs, x :: xs, h, hp => by
    have hp' := List.pairwise_cons.mp hp
    refine List.pairwise_cons.mpr ⟨fun y hy => ?_, pw_le2 e h.2 hp'.2⟩
    obtain ⟨i, hi, rfl⟩ := List.getElem_of_mem hy
    obtain ⟨w, hw, hr⟩ := h.2.get (List.getElem?_eq_getElem hi)
    exact hp'.1 w (List.mem_of_getElem? hw) _ _ _ _ (rep2 e h.1) (rep2 e hr)
theorem all_rep2 (e : Same S H) : ∀ {vs : List V} {xs : List (Int × Int)}, RepL K S vs xs → ∀ v ∈ vs, ∃ m n : Int, TupI K H v [m, n]
  | v :: vs, x :: xs, h, w, hw => by
    rcases List.mem_cons.mp hw with q | q
    · rw [q]; exact ⟨_, _, rep2 e h.1⟩
    · exact all_rep2 e h.2 w q
theorem el_sort2 {xs : List (Int × Int)} (h : EvC K ta G xs G1) : EvL K (tCB (rSort2 K) (tCons ta tNil)) G (srt2 xs) G1 := fun B S0 S σ H F k Q q =>
  h B S0 S σ H F k _ fun v S1 H1 e1 k1 r1 => by
    obtain ⟨p, vs, rfl, hp, hr⟩ := r1.at k1
    refine ⟨p, vs, rfl, SqL.of hp, all_rep2 k1.sub hr, fun ys l pm so hl => ?_⟩
    obtain ⟨zs, h1, h2⟩ := RepL.perm pm hr
    have e : zs = srt2 xs := srt2_eq h1 (pw_le2 k1.sub h2 so)
    rw [e] at h2
    exact mk_list k1 hl h2 fun p vs S2 H2 e2 k2 a b c d r => q p vs S2 H2 (e1.trans e2) k2 a b c d r
end
end GL

namespace GL
open PySem PySem.Spec PyProof.Rows L2
section
variable {K : Fg} {B S0 S1 S S' : Hp} {σ : L2.St} {H H' : Hp} {F : Nat → List Addr} {G G' G1 G2 G3 : List Sl} {ta tb tc te : TE} {i j : Nat} {u : TS} {E : Ends}
/-! ### xs.extend(ys) -/
section
variable {α : Type} [Py α]
theorem qg_ext {xs xs' ys : List α} (i : Nat) (hl : G[i]? = some (.ow xs)) (h : EvC K te G ys G1) (hl1 : G1[i]? = some (.ow xs')) (hz : xs'.length + ys.length ≤ sizeLine) (k : ∀ y, y = xs' ++ ys → At K B S0 (u E) (G1.set i (.ow y))) :
    At K B S0 (tSeq (tDrop (tBM K "list" rExtend (tVar i) (tCons te tNil))) u E) G := fun S σ H F kn => by
  obtain ⟨p, vs, h1, h2, h3, h4⟩ := own_list kn hl
  refine ⟨.ref p, h1, .inl ⟨rfl, _, SqL.of h3⟩, h B S0 S σ H F kn _ fun v S' H' e kn' r => ?_⟩
  obtain ⟨p', vs', h1', h2', h3', h4'⟩ := own_list kn' hl1
  rw [h1] at h1'
  cases h1'
  obtain ⟨q, ws, rfl, hq, hr⟩ := r.at kn'
  exact ⟨p, q, vs', ws, rfl, rfl, h3', hq, by rw [h4'.len, hr.len]; exact hz, k _ rfl S' σ _ F (own_listUpd kn' h1 h2' (h4'.app hr))⟩
end
/-! ### one of two kinds -/
section
variable {α β γ δ : Type} [Py α] [Py β] [Py γ] [Py δ]
def lG [Inhabited α] : Sum α β → α
  | .inl y => y
  | .inr _ => default
def rG [Inhabited β] : Sum α β → β
  | .inl _ => default
  | .inr y => y
theorem EvX.lG [Inhabited α] {x : Sum α β} (ha : EvX K ta G x G1) (h : x.isLeft = true) : EvX K ta G (GL.lG x) G1 := by
  cases x with
  | inl y => exact ha
  | inr y => exact absurd h Bool.false_ne_true
theorem EvX.rG [Inhabited β] {x : Sum α β} (ha : EvX K ta G x G1) (h : x.isRight = true) : EvX K ta G (GL.rG x) G1 := by
  cases x with
  | inl y => exact absurd h Bool.false_ne_true
  | inr y => exact ha
def sm0 : Sum (T3 α β γ) (α × δ) → α
  | .inl y => y.a
  | .inr y => y.1
def sm1 : Sum (T3 α β γ) (α × δ) → Sum β δ
  | .inl y => .inl y.b
  | .inr y => .inr y.2
def smL : Sum (T3 α β γ) (α × δ) → Sum γ δ
  | .inl y => .inl y.c
  | .inr y => .inr y.2
theorem ev_sm0 {x : Sum (T3 α β γ) (α × δ)} (ha : EvX K ta G x G1) : EvX K (tOp (rIxT K) ta (tC (.int 0))) G (sm0 x) G1 := by
  cases x with
  | inl y => exact ev_3a (w := y) ha
  | inr y => exact ev_fst (xy := y) ha
theorem ev_sm1 {x : Sum (T3 α β γ) (α × δ)} (ha : EvX K ta G x G1) : EvX K (tOp (rIxT K) ta (tC (.int 1))) G (sm1 x) G1 := by
  cases x with
  | inl y => exact EvX.inl (ev_3b (w := y) ha)
  | inr y => exact EvX.inr (ev_snd (xy := y) ha)
theorem ev_lenSm {x : Sum (T3 α β γ) (α × δ)} (ha : EvX K ta G x G1) : EvX K (tCB (rLenS K) (tCons ta tNil)) G (if x.isLeft = true then (3 : Int) else 2) G1 := by
  cases x with
  | inl y => exact ev_len3 (x := y) ha
  | inr y => exact ev_lenP (x := y) ha
instance {n : String} [h : Ty α n] [Ty β n] : Ty (Sum α β) n := ⟨fun {K S H v x} e r => by
  cases x with
  | inl y => exact Ty.ty (x := y) e r
  | inr y => exact Ty.ty (x := y) e r⟩
/-- t[:2] of a tuple of three -/
theorem ev_sl2 {x : T3 α β γ} (ha : EvX K ta G x G) : EvX K (tSl (rSlA K) ta tNoPart (tPart (tC (.int 2)))) G ((x.a, x.b) : α × β) G := fun B S0 S σ H F k Q q =>
  ha B S0 S σ H F k _ fun v S1 H1 e1 k1 r1 => by
    obtain ⟨p, a, b, c, rfl, hp, h1, h2, h3⟩ := r1
    refine ⟨2, rfl, p, _, rfl, seqT k1.sub hp, fun hw => absurd (show HT.sIx 3 3 (some 2) = 3 from hw.2) (by decide), fun _ l hl => ?_⟩
    exact q _ _ _ (e1.trans (same_new (k1.free hl).1)) (k1.new hl) ⟨l, a, b, rfl, .inl (.inl (by simp [upd]; rfl)), Py.mono (same_new (k1.free hl).1) h1, Py.mono (same_new (k1.free hl).1) h2⟩
end
end
end GL

namespace GL
open PySem PySem.Spec PyProof.Rows L2
section
variable {K : Fg} {B S0 S1 S S' : Hp} {σ : L2.St} {H H' : Hp} {F : Nat → List Addr} {G G' G1 G2 G3 : List Sl} {ta tb tc te : TE} {i j : Nat} {u : TS} {E : Ends}
variable {α β γ δ : Type} [Py α] [Py β] [Py γ] [Py δ]
/-- data that hold texts: each text is to be a plain one -/
class Dq (α : Type) [Py α] where
  dat : α → PyData
  ok : α → Prop
  dp : ∀ {K : Fg} {S H : Hp} {v : V} {x : α}, Same S H → Py.rep K S v x → Dp K H v (dat x)
  lay : ∀ x : α, ok x → (dat x).canLay0 = true
  dep : Nat
  dle : ∀ x : α, (dat x).depth ≤ dep
  eq : ∀ x y : α, (PyData.eqv (dat x) (dat y) = true) ↔ x = y
instance (priority := low) [Dt α] : Dq α := ⟨Dt.dat, fun _ => True, Dt.dp, fun x _ => Dt.lay x, Dt.dep α, Dt.dle, Dt.eq⟩
instance : Dq Str := ⟨PyData.str, fun x => (PyData.str x).canLay0 = true, fun _ h => by rw [show _ = V.str _ from h]; exact .str _, fun x h => h, 0, fun _ => Nat.le_refl _, fun x y => by simp [PyData.eqv]⟩
theorem dqAll [Dq α] (e : Same S H) : ∀ {vs : List V} {xs : List α}, RepL K S vs xs → DpAll K H vs (xs.map Dq.dat)
  | [], [], _ => .nil
  | _ :: _, _ :: _, h => .cons (Dq.dp e h.1) (dqAll e h.2)
  | [], _ :: _, h => h.elim
  | _ :: _, [], h => h.elim
theorem lqAll [Dq α] : ∀ xs : List α, (∀ x ∈ xs, Dq.ok x) → PyData.canLayAll0 (xs.map Dq.dat) = true
  | [], _ => rfl
  | x :: xs, h => by rw [List.map_cons, PyData.canLayAll0, Dq.lay x (h x List.mem_cons_self), lqAll xs fun y hy => h y (List.mem_cons_of_mem _ hy)]; rfl
theorem pqAll [Dq α] : ∀ xs : List α, PyData.depthAll (xs.map Dq.dat) ≤ Dq.dep α
  | [] => by rw [List.map_nil, PyData.depthAll]; exact Nat.zero_le _
  | x :: xs => by
    rw [List.map_cons, PyData.depthAll]
    have h1 := Dq.dle x
    have h2 := pqAll xs
    omega
theorem eqqAll [Dq α] : ∀ xs ys : List α, (PyData.eqvAll (xs.map Dq.dat) (ys.map Dq.dat) = true) ↔ xs = ys
  | [], [] => by simp [PyData.eqvAll]
  | [], _ :: _ => by simp [PyData.eqvAll]
  | _ :: _, [] => by simp [PyData.eqvAll]
  | x :: xs, y :: ys => by
    rw [List.map_cons, List.map_cons, PyData.eqvAll, Bool.and_eq_true, Dq.eq, eqqAll xs ys, List.cons.injEq]
instance (priority := 500) [Dq α] : Dq (List α) := ⟨fun xs => .list (xs.map Dq.dat), fun xs => ∀ x ∈ xs, Dq.ok x, fun e ⟨p, vs, h1, h2, h3⟩ => by rw [h1]; exact .lst (SqL.of (e _ _ h2)) (dqAll e h3), fun xs h => by rw [PyData.canLay0]; exact lqAll xs h, Dq.dep α + 1,
  fun xs => by rw [PyData.depth]; exact Nat.succ_le_succ (pqAll xs), fun xs ys => by rw [PyData.eqv]; exact eqqAll xs ys⟩
instance (priority := 500) [Dq α] [Dq β] : Dq (α × β) := ⟨fun x => .tuple [Dq.dat x.1, Dq.dat x.2], fun x => Dq.ok x.1 ∧ Dq.ok x.2, fun e ⟨p, a, b, h1, h2, h3, h4⟩ => by rw [h1]; exact .tup (seqT e h2) (.cons (Dq.dp e h3) (.cons (Dq.dp e h4) .nil)),
  fun x h => by simp [PyData.canLay0, PyData.canLayAll0, Dq.lay _ h.1, Dq.lay _ h.2], max (Dq.dep α) (Dq.dep β) + 1, fun x => by
    have h1 := Dq.dle x.1
    have h2 := Dq.dle x.2
    simp only [PyData.depth, PyData.depthAll]
    omega, fun x y => by
    simp only [PyData.eqv, PyData.eqvAll, Bool.and_eq_true, Dq.eq, and_true]
    exact ⟨fun h => Prod.ext h.1 h.2, fun h => by rw [h]; exact ⟨rfl, rfl⟩⟩⟩
instance (priority := 500) [Dq α] [Dq β] [Dq γ] : Dq (T3 α β γ) := ⟨fun x => .tuple [Dq.dat x.a, Dq.dat x.b, Dq.dat x.c], fun x => Dq.ok x.a ∧ Dq.ok x.b ∧ Dq.ok x.c, fun e ⟨p, a, b, c, h1, h2, h3, h4, h5⟩ => by rw [h1]; exact .tup (seqT e h2) (.cons (Dq.dp e h3) (.cons (Dq.dp e h4) (.cons (Dq.dp e h5) .nil))),
  fun x h => by simp [PyData.canLay0, PyData.canLayAll0, Dq.lay _ h.1, Dq.lay _ h.2.1, Dq.lay _ h.2.2], max (Dq.dep α) (max (Dq.dep β) (Dq.dep γ)) + 1, fun x => by
    have h1 := Dq.dle x.a
    have h2 := Dq.dle x.b
    have h3 := Dq.dle x.c
    simp only [PyData.depth, PyData.depthAll]
    omega, fun x y => by
    simp only [PyData.eqv, PyData.eqvAll, Bool.and_eq_true, Dq.eq, and_true]
    cases x; cases y
    simp⟩
theorem shapedQ [Dq α] (h : Dq.dep α ≤ 64) (x : α) (hx : Dq.ok x) : SeqAt.shaped (Dq.dat x) = true := by
  unfold SeqAt.shaped
  rw [Dq.lay x hx, decide_eq_true (Nat.le_trans (Dq.dle x) h)]
  rfl
theorem eqvQ [Dq α] [DecidableEq α] (x y : α) : PyData.eqv (Dq.dat x) (Dq.dat y) = decide (x = y) := by
  by_cases e : x = y
  · rw [decide_eq_true e]
    exact (Dq.eq x y).mpr e
  · rw [decide_eq_false e]
    exact Bool.eq_false_iff.mpr fun h => e ((Dq.eq x y).mp h)
theorem ev_eqQ [Dq α] [DecidableEq α] {x y : α} (ha : EvX K ta G x G1) (hb : EvX K tb G1 y G2) (h : Dq.dep α ≤ 64) (hx : Dq.ok x) (hy : Dq.ok y) : EvX K (tOp (rEqD K) ta tb) G (decide (x = y)) G2 := fun B S0 S σ H F k Q q =>
  ha B S0 S σ H F k _ fun v S1 H1 e1 k1 r1 => hb B S0 S1 σ H1 F k1 _ fun w S2 H2 e2 k2 r2 =>
    ⟨_, _, Dq.dp k2.sub (Py.mono e2 r1), Dq.dp k2.sub r2, shapedQ h x hx, shapedQ h y hy, q _ S2 H2 (e1.trans e2) k2 (by rw [eqvQ]; rfl)⟩
theorem ev_neQ [Dq α] [DecidableEq α] {x y : α} (ha : EvX K ta G x G1) (hb : EvX K tb G1 y G2) (h : Dq.dep α ≤ 64) (hx : Dq.ok x) (hy : Dq.ok y) : EvX K (tOp (rNeD K) ta tb) G (!decide (x = y)) G2 := fun B S0 S σ H F k Q q =>
  ha B S0 S σ H F k _ fun v S1 H1 e1 k1 r1 => hb B S0 S1 σ H1 F k1 _ fun w S2 H2 e2 k2 r2 =>
    ⟨_, _, Dq.dp k2.sub (Py.mono e2 r1), Dq.dp k2.sub r2, shapedQ h x hx, shapedQ h y hy, q _ S2 H2 (e1.trans e2) k2 (by rw [eqvQ]; rfl)⟩
end
end GL

/-! is True, is False; xs[::-1]; the ways of an if that meet in a state told by a word -/
namespace GL
open PySem PySem.Spec PyProof.Rows L2
section
variable {K : Fg} {B S0 S1 S S' : Hp} {σ : L2.St} {H H' : Hp} {F : Nat → List Addr} {G G' G1 G2 G3 : List Sl} {ta tb tc te : TE} {i j : Nat} {t u : TS} {E : Ends}
theorem ev_isB {a b : Bool} (ha : EvX K ta G a G1) (hb : EvX K tb G1 b G2) : EvX K (tOp rIsB ta tb) G (decide (a = b)) G2 := fun B S0 S σ H F k Q q =>
  ha B S0 S σ H F k _ fun v S1 H1 e1 k1 r1 => hb B S0 S1 σ H1 F k1 _ fun w S2 H2 e2 k2 r2 => ⟨a, b, r1, r2, q _ S2 H2 (e1.trans e2) k2 rfl⟩
theorem ev_nisB {a b : Bool} (ha : EvX K ta G a G1) (hb : EvX K tb G1 b G2) : EvX K (tOp rNotB ta tb) G (!decide (a = b)) G2 := fun B S0 S σ H F k Q q =>
  ha B S0 S σ H F k _ fun v S1 H1 e1 k1 r1 => hb B S0 S1 σ H1 F k1 _ fun w S2 H2 e2 k2 r2 => ⟨a, b, r1, r2, q _ S2 H2 (e1.trans e2) k2 rfl⟩
theorem el_revL {α : Type} [Py α] {xs : List α} (h : EvC K ta G xs G1) : EvL K (tRevL K ta) G xs.reverse G1 := fun B S0 S σ H F k Q q =>
  h B S0 S σ H F k _ fun v S1 H1 e1 k1 r1 => by
    obtain ⟨p, vs, rfl, hp, hr⟩ := r1.at k1
    exact ⟨p, vs, rfl, SqL.of hp, fun l hl => mk_list k1 hl hr.rev fun p vs S2 H2 e2 k2 a b c d r => q p vs S2 H2 (e1.trans e2) k2 a b c d r⟩
theorem el_catX {α : Type} [Py α] {xs ys : List α} (ha : EvX K ta G xs G1) (hb : EvX K tb G1 ys G2) (hz : xs.length + ys.length ≤ sizeLine) : EvL K (tOp rCat ta tb) G (xs ++ ys) G2 := fun B S0 S σ H F k Q q =>
  ha B S0 S σ H F k _ fun v S1 H1 e1 k1 r1 => hb B S0 S1 σ H1 F k1 _ fun w S2 H2 e2 k2 r2 => by
    obtain ⟨p, vs, rfl, hp, hr⟩ := Py.mono e2 r1
    obtain ⟨p', vs', rfl, hp', hr'⟩ := r2
    exact ⟨p, p', vs, vs', rfl, rfl, k2.sub _ _ hp, k2.sub _ _ hp', by rw [hr.len, hr'.len]; exact hz, fun l hl => mk_list k2 hl (hr.app hr') fun p vs S3 H3 e3 k3 a b c d r => q p vs S3 H3 ((e1.trans e2).trans e3) k3 a b c d r⟩
/-! and, or whose parts turn an owned thing -/
theorem set_same {i : Nat} {s : Sl} (h : G[i]? = some s) : G.set i s = G := by
  apply List.ext_getElem?
  intro j
  by_cases q : i = j
  · subst q
    rw [List.getElem?_set_self (List.getElem?_eq_some_iff.mp h).1, h]
  · rw [List.getElem?_set_ne q]
section
variable {tt uu : TT} {b c : Bool} {ω : Type} [Own ω] {z z' : ω}
theorem et_andG (h1 : EvT K tt G b G1) (h2 : b = true → EvT K uu G1 c G1) : EvT K (tAnd tt uu) G (b && c) G1 := fun B S0 S σ H F k Q q => h1 B S0 S σ H F k _ fun S1 H1 e1 k1 => by
  cases b with
  | true => exact h2 rfl B S0 S1 σ H1 F k1 Q fun S2 H2 e2 k2 => q S2 H2 (e1.trans e2) k2
  | false => exact q S1 H1 e1 k1
theorem et_orG (h1 : EvT K tt G b G1) (h2 : b = false → EvT K uu G1 c G1) : EvT K (tOr tt uu) G (b || c) G1 := fun B S0 S σ H F k Q q => h1 B S0 S σ H F k _ fun S1 H1 e1 k1 => by
  cases b with
  | false => exact h2 rfl B S0 S1 σ H1 F k1 Q fun S2 H2 e2 k2 => q S2 H2 (e1.trans e2) k2
  | true => exact q S1 H1 e1 k1
theorem et_andM (i : Nat) (h1 : EvT K tt G b G1) (hi : G1[i]? = some (.ow z)) (h2 : b = true → EvT K uu G1 c (G1.set i (.ow z'))) : EvT K (tAnd tt uu) G (b && c) (G1.set i (.ow (if b = true then z' else z))) := fun B S0 S σ H F k Q q => h1 B S0 S σ H F k _ fun S1 H1 e1 k1 => by
  cases b with
  | true => exact h2 rfl B S0 S1 σ H1 F k1 Q fun S2 H2 e2 k2 => q S2 H2 (e1.trans e2) k2
  | false => exact q S1 H1 e1 (by rw [if_neg Bool.false_ne_true, set_same hi]; exact k1)
theorem et_orM (i : Nat) (h1 : EvT K tt G b G1) (hi : G1[i]? = some (.ow z)) (h2 : b = false → EvT K uu G1 c (G1.set i (.ow z'))) : EvT K (tOr tt uu) G (b || c) (G1.set i (.ow (if b = true then z else z'))) := fun B S0 S σ H F k Q q => h1 B S0 S σ H F k _ fun S1 H1 e1 k1 => by
  cases b with
  | false => exact h2 rfl B S0 S1 σ H1 F k1 Q fun S2 H2 e2 k2 => q S2 H2 (e1.trans e2) k2
  | true => exact q S1 H1 e1 (by rw [if_pos rfl, set_same hi]; exact k1)
theorem ev_andVG (h1 : EvX K ta G b G1) (h2 : b = true → EvX K tb G1 c G1) : EvX K (tAndV ta tb) G (b && c) G1 := fun B S0 S σ H F k Q q => h1 B S0 S σ H F k _ fun v S1 H1 e1 k1 r1 => ⟨b, r1, by
  cases b with
  | true => exact h2 rfl B S0 S1 σ H1 F k1 Q fun w S2 H2 e2 k2 r2 => q w S2 H2 (e1.trans e2) k2 r2
  | false => exact q _ S1 H1 e1 k1 rfl⟩
theorem ev_andVM (i : Nat) (h1 : EvX K ta G b G1) (hi : G1[i]? = some (.ow z)) (h2 : b = true → EvX K tb G1 c (G1.set i (.ow z'))) : EvX K (tAndV ta tb) G (b && c) (G1.set i (.ow (if b = true then z' else z))) := fun B S0 S σ H F k Q q => h1 B S0 S σ H F k _ fun v S1 H1 e1 k1 r1 => ⟨b, r1, by
  cases b with
  | true => exact h2 rfl B S0 S1 σ H1 F k1 Q fun w S2 H2 e2 k2 r2 => q w S2 H2 (e1.trans e2) k2 r2
  | false => exact q _ S1 H1 e1 (by rw [if_neg Bool.false_ne_true, set_same hi]; exact k1) rfl⟩
theorem ev_orVG (h1 : EvX K ta G b G1) (h2 : b = false → EvX K tb G1 c G1) : EvX K (tOrV ta tb) G (b || c) G1 := fun B S0 S σ H F k Q q => h1 B S0 S σ H F k _ fun v S1 H1 e1 k1 r1 => ⟨b, r1, by
  cases b with
  | false => exact h2 rfl B S0 S1 σ H1 F k1 Q fun w S2 H2 e2 k2 r2 => q w S2 H2 (e1.trans e2) k2 r2
  | true => exact q _ S1 H1 e1 k1 rfl⟩
end
theorem q_cutI {τ : Type} (γ : τ → List Sl) (I : τ → Prop) (h : At K B S0 (t { E with nx := Mid K B S0 (fun G' => ∃ s, G' = γ s ∧ I s) }) G) (k : ∀ s, I s → At K B S0 (u E) (γ s)) : At K B S0 (Evl.tCut t u E) G :=
  q_cut _ h fun G' ⟨s, e, p⟩ => by rw [e]; exact k s p
end
end GL

/-! Results whose lists are new: values told with a heap in which their lists did not stand. -/
namespace GL
open PySem PySem.Spec PyProof.Rows L2
/-- data with a word that its outer list is not in the heap D -/
class PyF (α : Type) [Py α] where
  repF : Fg → Hp → Hp → V → α → Prop
  un : ∀ {K : Fg} {D S : Hp} {v : V} {x : α}, repF K D S v x → Py.rep K S v x
  mono : ∀ {K : Fg} {D S S' : Hp} {v : V} {x : α}, Same S S' → repF K D S v x → repF K D S' v x
  anti : ∀ {K : Fg} {D D' S : Hp} {v : V} {x : α}, Same D' D → repF K D S v x → repF K D' S v x
/-- kinds without such a list -/
class PyT (α : Type) [Py α] [PyF α] : Prop where
  of : ∀ {K : Fg} {D S : Hp} {v : V} {x : α}, Py.rep K S v x → PyF.repF K D S v x
structure Fx (α : Type) where
  D : Hp
  x : α
@[reducible] def trivF (α : Type) [Py α] : PyF α := ⟨fun K _ S v x => Py.rep K S v x, fun h => h, fun e h => Py.mono e h, fun _ h => h⟩
instance : PyF Int := trivF Int
instance : PyF Bool := trivF Bool
instance : PyF Str := trivF Str
instance : PyF Unit := trivF Unit
instance {α : Type} [Py α] : PyF (Tp α) := trivF (Tp α)
instance : PyF (Option Int) := trivF (Option Int)
instance : PyT Int := ⟨fun h => h⟩
instance : PyT Bool := ⟨fun h => h⟩
instance : PyT Str := ⟨fun h => h⟩
instance : PyT Unit := ⟨fun h => h⟩
instance {α : Type} [Py α] : PyT (Tp α) := ⟨fun h => h⟩
instance : PyT (Option Int) := ⟨fun h => h⟩
section
variable {α β γ : Type} [Py α] [Py β] [Py γ]
instance : PyF (List α) := ⟨fun K D S v x => Py.rep K S v x ∧ ∃ p, v = .ref p ∧ D p = none, fun h => h.1, fun e h => ⟨Py.mono e h.1, h.2⟩, fun e ⟨h, p, h1, h2⟩ => ⟨h, p, h1, e.free h2⟩⟩
instance [PyF α] [PyF β] : PyF (α × β) := ⟨fun K D S v x => ∃ p a b, v = .ref p ∧ SqT K S p [a, b] ∧ PyF.repF K D S a x.1 ∧ PyF.repF K D S b x.2,
  fun ⟨p, a, b, h1, h2, h3, h4⟩ => ⟨p, a, b, h1, h2, PyF.un h3, PyF.un h4⟩, fun e ⟨p, a, b, h1, h2, h3, h4⟩ => ⟨p, a, b, h1, seqT e h2, PyF.mono e h3, PyF.mono e h4⟩, fun e ⟨p, a, b, h1, h2, h3, h4⟩ => ⟨p, a, b, h1, h2, PyF.anti e h3, PyF.anti e h4⟩⟩
instance [PyF α] [PyF β] [PyF γ] : PyF (T3 α β γ) := ⟨fun K D S v x => ∃ p a b c, v = .ref p ∧ SqT K S p [a, b, c] ∧ PyF.repF K D S a x.a ∧ PyF.repF K D S b x.b ∧ PyF.repF K D S c x.c,
  fun ⟨p, a, b, c, h1, h2, h3, h4, h5⟩ => ⟨p, a, b, c, h1, h2, PyF.un h3, PyF.un h4, PyF.un h5⟩, fun e ⟨p, a, b, c, h1, h2, h3, h4, h5⟩ => ⟨p, a, b, c, h1, seqT e h2, PyF.mono e h3, PyF.mono e h4, PyF.mono e h5⟩,
  fun e ⟨p, a, b, c, h1, h2, h3, h4, h5⟩ => ⟨p, a, b, c, h1, h2, PyF.anti e h3, PyF.anti e h4, PyF.anti e h5⟩⟩
instance [PyF α] [PyF β] : PyF (Sum α β) := ⟨fun K D S v x => match x with | .inl y => PyF.repF K D S v y | .inr y => PyF.repF K D S v y,
  fun {K D S v x} h => by cases x with | inl y => exact PyF.un (α := α) h | inr y => exact PyF.un (α := β) h, fun {K D S S' v x} e h => by cases x with | inl y => exact PyF.mono (α := α) e h | inr y => exact PyF.mono (α := β) e h,
  fun {K D D' S v x} e h => by cases x with | inl y => exact PyF.anti (α := α) e h | inr y => exact PyF.anti (α := β) e h⟩
instance [PyF α] : Py (Fx α) := ⟨fun K S v y => PyF.repF K y.D S v y.x, fun e h => PyF.mono e h⟩
end
section
variable {K : Fg} {B S0 S1 S S' D : Hp} {σ : L2.St} {H H' : Hp} {F : Nat → List Addr} {G G' G1 G2 G3 : List Sl} {ta tb tc te : TE} {i j : Nat} {t u : TS} {E : Ends}
section
variable {α β γ : Type} [Py α] [Py β] [Py γ] [PyF α] [PyF β] [PyF γ] {x : α} {y : β} {z : γ}
/-- the word forgotten -/
theorem EvX.unF {w : Fx α} (h : EvX K te G w G1) : EvX K te G w.x G1 := fun B S0 S σ H F k Q q => h B S0 S σ H F k Q fun v S' H' e k' r => q v S' H' e k' (PyF.un r)
theorem EvX.toF {δ : Type} [Py δ] [PyF δ] [PyT δ] {x : δ} (D : Hp) (h : EvX K te G x G1) : EvX K te G (Fx.mk D x) G1 := fun B S0 S σ H F k Q q => h B S0 S σ H F k Q fun v S' H' e k' r => q v S' H' e k' (PyT.of r)
theorem ev_fstF {w : Fx (α × β)} (ha : EvX K ta G w G1) : EvX K (tOp (rIxT K) ta (tC (.int 0))) G (Fx.mk w.D w.x.1) G1 := fun B S0 S σ H F k Q q =>
  ha B S0 S σ H F k _ fun v S1 H1 e1 k1 r1 => by
    obtain ⟨p, a, b, rfl, hp, h1, h2⟩ := r1
    exact ⟨p, _, 0, a, rfl, rfl, seqT k1.sub hp, atI_nat (j := 0) rfl, q a S1 H1 e1 k1 h1⟩
theorem ev_sndF {w : Fx (α × β)} (ha : EvX K ta G w G1) : EvX K (tOp (rIxT K) ta (tC (.int 1))) G (Fx.mk w.D w.x.2) G1 := fun B S0 S σ H F k Q q =>
  ha B S0 S σ H F k _ fun v S1 H1 e1 k1 r1 => by
    obtain ⟨p, a, b, rfl, hp, h1, h2⟩ := r1
    exact ⟨p, _, 1, b, rfl, rfl, seqT k1.sub hp, atI_nat (j := 1) rfl, q b S1 H1 e1 k1 h2⟩
theorem ev_3aF {w : Fx (T3 α β γ)} (ha : EvX K ta G w G1) : EvX K (tOp (rIxT K) ta (tC (.int 0))) G (Fx.mk w.D w.x.a) G1 := fun B S0 S σ H F k Q q =>
  ha B S0 S σ H F k _ fun v S1 H1 e1 k1 r1 => by
    obtain ⟨p, a, b, c, rfl, hp, h1, h2, h3⟩ := r1
    exact ⟨p, _, 0, a, rfl, rfl, seqT k1.sub hp, atI_nat (j := 0) rfl, q a S1 H1 e1 k1 h1⟩
theorem ev_3cF {w : Fx (T3 α β γ)} (ha : EvX K ta G w G1) : EvX K (tOp (rIxT K) ta (tC (.int 2))) G (Fx.mk w.D w.x.c) G1 := fun B S0 S σ H F k Q q =>
  ha B S0 S σ H F k _ fun v S1 H1 e1 k1 r1 => by
    obtain ⟨p, a, b, c, rfl, hp, h1, h2, h3⟩ := r1
    exact ⟨p, _, 2, c, rfl, rfl, seqT k1.sub hp, atI_nat (j := 2) rfl, q c S1 H1 e1 k1 h3⟩
theorem EvX.lF [Inhabited α] {w : Fx (Sum α β)} (ha : EvX K ta G w G1) (h : w.x.isLeft = true) : EvX K ta G (Fx.mk w.D (GL.lG w.x)) G1 := by
  obtain ⟨D, x⟩ := w
  cases x with
  | inl y => exact fun B S0 S σ H F k Q q => ha B S0 S σ H F k Q fun v S' H' e k' r => q v S' H' e k' r
  | inr y => cases h
theorem EvX.rF [Inhabited β] {w : Fx (Sum α β)} (ha : EvX K ta G w G1) (h : w.x.isRight = true) : EvX K ta G (Fx.mk w.D (GL.rG w.x)) G1 := by
  obtain ⟨D, x⟩ := w
  cases x with
  | inr y => exact fun B S0 S σ H F k Q q => ha B S0 S σ H F k Q fun v S' H' e k' r => q v S' H' e k' r
  | inl y => cases h
/-- tuples made of such -/
theorem ev_pairF (ha : EvX K ta G (Fx.mk D x) G1) (hb : EvX K tb G1 (Fx.mk D y) G2) : EvX K (tTup (tCons ta (tCons tb tNil))) G (Fx.mk D ((x, y) : α × β)) G2 := fun B S0 S σ H F k Q q =>
  ha B S0 S σ H F k _ fun v S1 H1 e1 k1 r1 => hb B S0 S1 σ H1 F k1 _ fun u S2 H2 e2 k2 r2 => ⟨by show 2 ≤ sizeLine; decide, fun p hp => by
    have e3 := same_new (o := .tup [v, u]) (k2.free hp).1
    exact q (.ref p) _ _ ((e1.trans e2).trans e3) (k2.new hp) ⟨p, v, u, rfl, SqT.of upd_same, PyF.mono (e2.trans e3) r1, PyF.mono e3 r2⟩⟩
theorem ev_t3F (ha : EvX K ta G (Fx.mk D x) G1) (hb : EvX K tb G1 (Fx.mk D y) G2) (hc : EvX K tc G2 (Fx.mk D z) G3) : EvX K (tTup (tCons ta (tCons tb (tCons tc tNil)))) G (Fx.mk D (T3.mk x y z)) G3 := fun B S0 S σ H F k Q q =>
  ha B S0 S σ H F k _ fun v S1 H1 e1 k1 r1 => hb B S0 S1 σ H1 F k1 _ fun u S2 H2 e2 k2 r2 => hc B S0 S2 σ H2 F k2 _ fun w S3 H3 e3 k3 r3 => ⟨by show 3 ≤ sizeLine; decide, fun p hp => by
    have e4 := same_new (o := .tup [v, u, w]) (k3.free hp).1
    exact q (.ref p) _ _ (((e1.trans e2).trans e3).trans e4) (k3.new hp) ⟨p, v, u, w, rfl, SqT.of upd_same, PyF.mono ((e2.trans e3).trans e4) r1, PyF.mono (e3.trans e4) r2, PyF.mono e4 r3⟩⟩
theorem EvX.inlF (h : EvX K te G (Fx.mk D x) G1) : EvX K te G (Fx.mk D (Sum.inl x : Sum α β)) G1 := fun B S0 S σ H F k Q q => h B S0 S σ H F k Q fun v S' H' e k' r => q v S' H' e k' r
theorem EvX.inrF (h : EvX K te G (Fx.mk D y) G1) : EvX K te G (Fx.mk D (Sum.inr y : Sum α β)) G1 := fun B S0 S σ H F k Q q => h B S0 S σ H F k Q fun v S' H' e k' r => q v S' H' e k' r
/-- a list of one's own is given away; it was not in the frame's heap -/
theorem at_relF {δ : Type} [Py δ] {x : List δ} {i : Nat} {P : L2.St → Hp → Prop} (h : G[i]? = some (.ow x)) (q : At K B S0 P (G.set i (.im (Fx.mk B x)))) : At K B S0 P G := fun S σ H F k => by
  obtain ⟨S', e, k'⟩ := k.relL h
  obtain ⟨v, hv, p, vs, rfl, hp, h1, h2⟩ := k.ow h
  obtain ⟨hs, hb, _⟩ := k.off i p (by rw [hp]; exact List.mem_singleton.mpr rfl)
  refine q S' σ H (upF F i []) ?_
  have hl : i < G.length := (List.getElem?_eq_some_iff.mp h).1
  obtain ⟨w, hw, rw_⟩ := k'.im (x := x) (i := i) (List.getElem?_set_self hl)
  rw [hv] at hw
  cases hw
  have k3 := k'.set (i := i) (v := .ref p) (x := Fx.mk B x) ⟨rw_, p, rfl, hb⟩ (by rw [List.getElem?_set_self hl]; rfl)
  have e1 : σ.set i (some (.ref p)) = σ := by
    apply List.ext_getElem?
    intro j
    by_cases e : i = j
    · subst e
      rw [List.getElem?_set_self (by rw [← k.len]; exact hl)]
      exact hv.symm
    · rw [List.getElem?_set_ne e]
  rw [e1, List.set_set] at k3
  exact k3
/-- return of a new list, and of a pair with a new list -/
theorem q_retLF {δ : Type} [Py δ] {xs : List δ} (h : EvL K te G xs G1) (k : RT K B S0 E.rt (Fx.mk B xs) G1) : At K B S0 (tSeq (tRet te) u E) G := fun S σ H F kn =>
  h B S0 S σ H F kn _ fun p vs S' H' e kn' hs hb hf hp r =>
    k (upd S' p (.lst vs)) σ H' F (.ref p) (kn'.settle hp hs hb hf) ⟨⟨p, vs, rfl, upd_same, r.mono (same_new hs)⟩, p, rfl, hb⟩
theorem q_retPL {δ : Type} [Py δ] {xs : List δ} {ω : Type} [Py ω] [PyF ω] (f : List δ → ω) (hf : ∀ {K : Fg} {D S : Hp} {v : V}, PyF.repF K D S v xs → PyF.repF K D S v (f xs)) (ha : EvX K ta G x G1) (h : EvL K te G1 xs G2) (k : RT K B S0 E.rt (Fx.mk B ((x, f xs) : α × ω)) G2)
    (hx : ∀ {K : Fg} {D S : Hp} {v : V}, Py.rep K S v x → PyF.repF K D S v x) : At K B S0 (tSeq (tRet (tTup (tCons ta (tCons te tNil)))) u E) G := fun S σ H F kn =>
  ha B S0 S σ H F kn _ fun v S1 H1 e1 k1 r1 => h B S0 S1 σ H1 F k1 _ fun p vs S' H' e kn' hs hb hf' hp r => ⟨by show 2 ≤ sizeLine; decide, fun l hl => by
    have k2 := kn'.settle hp hs hb hf'
    have e3 := same_new (o := .tup [v, .ref p]) (k2.free hl).1
    have e4 : Same S' (upd S' p (.lst vs)) := same_new hs
    exact k _ σ _ F (.ref l) (k2.new hl) ⟨l, v, .ref p, rfl, SqT.of upd_same, hx (Py.mono ((e.trans e4).trans e3) r1), PyF.mono e3 (hf ⟨⟨p, vs, rfl, upd_same, r.mono e4⟩, p, rfl, hb⟩)⟩⟩
end
/-! ### promises of such -/
/-- from packed arguments its value, whose lists are new -/
def spN {α β : Type} [PyA α] [Py β] [PyF β] (K : Fg) (f : α → β) (pre : α → Prop) : Sp := fun vs H Q _ => ∃ (S : Hp) (a : α), Same S H ∧ PyA.rep K S vs a ∧ pre a ∧ ∀ v S' H', Grow S H S' H' → PyF.repF K H S' v (f a) → Q v H'
section
variable {α β : Type} [PyA α] [Py β] [PyF β] {f : α → β} {pre : α → Prop} {a : α} {t : TA} {E : XK} {g : TG} {D : Ends}
theorem ev_callN (ha : EvA K t G a G1) (hp : pre a) : EvX K (tCall (spN K f pre) [] E t) G (f a) G1 := fun B S0 S σ H F k Q q =>
  ha B S0 S σ H F k _ fun vs S1 H1 e1 k1 r1 => by
    rw [List.append_nil]
    exact ⟨S1, a, k1.sub, r1, hp, fun v S2 H2 g r2 => q v S2 H2 (e1.trans g.s) (k1.grow g) (PyF.un r2)⟩
/-- .. told as new by the frame's heap, or by the base -/
theorem q_callN (Z : Hp) (hZ : Z = B ∨ Z = S0) (ha : EvA K t G a G1) (hp : pre a) (k : ∀ y, y = f a → ∃ G2 ts, TgG K g (Fx.mk Z y) G1 G2 ts ∧ At K B S0 (u D) G2) : At K B S0 (tSeq (tAsg (tCall (spN K f pre) [] E t) g) u D) G := fun S σ H F kn =>
  ha B S0 S σ H F kn _ fun vs S1 H1 e1 k1 r1 => by
    show spN K f pre (vs ++ []) H1 _ E
    rw [List.append_nil]
    refine ⟨S1, a, k1.sub, r1, hp, fun v S2 H2 g r2 => ?_⟩
    obtain ⟨G2, ts, tg, q⟩ := k _ rfl
    have hs : Same Z H1 := by
      rcases hZ with rfl | rfl
      · exact k1.keep
      · exact k1.s0.trans k1.sub
    exact tg.2 B S0 S2 σ H2 F v (k1.grow g) (PyF.anti hs r2) _ fun σ' k2 _ _ => q S2 σ' H2 F k2
theorem qg_callN (i : Nat) (Z : Hp) (hZ : Z = B ∨ Z = S0) (ha : EvA K t G a G1) (hp : pre a) (hi : G1[i]?.isSome = true) (k : ∀ y, y = f a → At K B S0 (u D) (G1.set i (.im (Fx.mk Z y)))) : At K B S0 (tSeq (tAsg (tCall (spN K f pre) [] E t) (gName i)) u D) G :=
  q_callN Z hZ ha hp fun y e => ⟨_, _, tg_name hi, k y e⟩
/-- return of such a call -/
theorem q_retN (ha : EvA K t G a G1) (hp : pre a) (k : ∀ y, y = f a → RT K B S0 D.rt (Fx.mk B y) G1) : At K B S0 (tSeq (tRet (tCall (spN K f pre) [] E t)) u D) G := fun S σ H F kn =>
  ha B S0 S σ H F kn _ fun vs S1 H1 e1 k1 r1 => by
    show spN K f pre (vs ++ []) H1 _ E
    rw [List.append_nil]
    exact ⟨S1, a, k1.sub, r1, hp, fun v S2 H2 g r2 => k _ rfl S2 σ H2 F v (k1.grow g) (PyF.anti k1.keep r2)⟩
end
section
variable {P : Program} {w : World} {mg : Str → Option Value} {base : Heap} {α β : Type} [Sls α] [Py β] [PyF β]
theorem def_spN {x : Str} {st : Stmt} {N ps : List Str} {k : Nat} {f : α → β} {pre : α → Prop} (D : Def K mg x st ps) (S : FnScope N ps (defScope st)) (hn : PyA.n α = ps.length)
    (h : ∀ (fa : Addr) (cdv : Value) (A : Around) (outer : List Env) (s : Shared) (H : Hp) (E : XK), Room k (A.deeper (envOfC x (defScope st) s.heap.objs.size fa cdv)) →
      ∃ t, PSs (cxOf CX0 P w K mg base N x (defScope st) fa cdv A outer s H E).nox (defBody st) t ∧
        ∀ (a : α), pre a → ∀ (B S0 : Hp) (Q : VK), (∀ G' y, y = f a → RT K B S0 Q (Fx.mk B y) G') → At K B S0 (t { nx := fun _ H' => Q .non H', rt := Q }) (Sls.sls a ++ List.replicate (N.length - PyA.n α) .no)) :
    Cal P w K mg base (k + 1) x ps (spN K f pre) := by
  obtain ⟨fa, fd, m, F, b⟩ := D.ex
  refine ⟨fa, fd, m, F.ok S (fun vs H Q E ⟨S, a, _, r, _⟩ => (PyA.len r).trans hn) fun cdv A outer s H vs Q E hr ⟨S', a, e, r, hp, q⟩ => ?_, F.kp, b⟩
  obtain ⟨t, h1, h2⟩ := h fa cdv A outer s H E hr
  refine ⟨t, h1, h2 a hp H S' Q (fun G' y ey S1 σ1 H1 F1 v k1 r1 => ?_) S' _ H _ (start_kn e r)⟩
  subst ey
  exact q v S1 H1 ⟨k1.s0, k1.sub, k1.keep, k1.clean⟩ r1
end
/-! ### settled since the base -/
structure At1 (α : Type) where
  S : Hp
  x : α
instance {α : Type} [Py α] : Py (At1 α) := ⟨fun K S v y => Py.rep K y.S v y.x ∧ Same y.S S, fun e h => ⟨h.1, h.2.trans e⟩⟩
theorem EvX.th {α : Type} [Py α] {w : At1 α} (h : EvX K te G w G1) : EvX K te G w.x G1 := fun B S0 S σ H F k Q q => h B S0 S σ H F k Q fun v S' H' e k' r => q v S' H' e k' (Py.mono r.2 r.1)
def frz (S : Hp) : Sl → Sl
  | .no => .no
  | @Sl.im _ i x => @Sl.im _ (@instPyAt1 _ i) (At1.mk S x)
  | @Sl.ow _ i x => @Sl.ow _ i x
theorem Kn.frz (k : Kn K B S0 S σ H F G) : Kn K B S S σ H F (G.map (GL.frz S)) := by
  have k1 := k.reb
  refine ⟨k1.s0, k1.sub, k1.keep, k1.clean, k1.off, k1.dj, by rw [List.length_map]; exact k1.len, fun i s e => ?_⟩
  rw [List.getElem?_map] at e
  cases q : G[i]? with
  | none => rw [q] at e; cases e
  | some s0 =>
    rw [q] at e
    cases e
    have z := k1.sl i s0 q
    cases s0 with
    | no => exact True.intro
    | im x =>
      obtain ⟨v, h1, h2⟩ := z
      exact ⟨v, h1, h2, Same.refl _⟩
    | ow x => exact z
/-- owned things that lean on no settled one -/
class OwnI (ω : Type) [Own ω] : Prop where
  go : ∀ {K : Fg} {S S' H : Hp} {v : V} {ps : List Addr} {x : ω}, Own.own K S H v ps x → Own.own K S' H v ps x
instance : OwnI Spr := ⟨fun h => h⟩
instance : OwnI (List Int) := ⟨fun {K S S' H v ps x} ⟨p, vs, h1, h2, h3, h4⟩ => ⟨p, vs, h1, h2, h3, by rw [h4.ints]; exact RepL.of_ints x⟩⟩
/-- what is left of the state where the settled heap goes back to S -/
inductive Thw (S : Hp) : List Sl → List Sl → Prop
  | n : Thw S [] []
  | k {α : Type} [Py α] {x : α} {G G' : List Sl} : Thw S G G' → Thw S (.im (At1.mk S x) :: G) (.im (At1.mk S x) :: G')
  | o {α : Type} [Own α] [OwnI α] {x : α} {G G' : List Sl} : Thw S G G' → Thw S (.ow x :: G) (.ow x :: G')
  | d {s : Sl} {G G' : List Sl} : Thw S G G' → Thw S (.no :: G) (s :: G')
theorem Thw.len {G G' : List Sl} (h : Thw S G G') : G.length = G'.length := by
  induction h with
  | n => rfl
  | k _ ih => rw [List.length_cons, List.length_cons, ih]
  | o _ ih => rw [List.length_cons, List.length_cons, ih]
  | d _ ih => rw [List.length_cons, List.length_cons, ih]
theorem Thw.ok {S2 : Hp} {G G' : List Sl} (t : Thw S G G') : ∀ (f : Nat → Option (Option V)) (F : Nat → List Addr) (H' : Hp), (∀ i p, p ∈ F i → H' p = H p) → (∀ i s, G'[i]? = some s → SlOk K S2 H (f i) (F i) s) → ∀ i s, G[i]? = some s → SlOk K S H' (f i) (F i) s := by
  induction t with
  | n => intro f F H' hH h i s e; simp at e
  | k t ih =>
    intro f F H' hH h i s e
    cases i with
    | zero =>
      simp only [List.getElem?_cons_zero, Option.some.injEq] at e
      subst e
      obtain ⟨v, h1, h2, h3⟩ := h 0 _ rfl
      exact ⟨v, h1, h2, Same.refl _⟩
    | succ i => exact ih (fun i => f (i + 1)) (fun i => F (i + 1)) H' (fun i p hp => hH (i + 1) p hp) (fun i s e => h (i + 1) s (by simpa using e)) i s (by simpa using e)
  | o t ih =>
    intro f F H' hH h i s e
    cases i with
    | zero =>
      simp only [List.getElem?_cons_zero, Option.some.injEq] at e
      subst e
      obtain ⟨v, h1, h2⟩ := h 0 _ rfl
      exact ⟨v, h1, Own.mono (Same.refl _) (fun p hp => hH 0 p hp) (OwnI.go h2)⟩
    | succ i => exact ih (fun i => f (i + 1)) (fun i => F (i + 1)) H' (fun i p hp => hH (i + 1) p hp) (fun i s e => h (i + 1) s (by simpa using e)) i s (by simpa using e)
  | d t ih =>
    intro f F H' hH h i s e
    cases i with
    | zero =>
      simp only [List.getElem?_cons_zero, Option.some.injEq] at e
      subst e
      exact True.intro
    | succ i => exact ih (fun i => f (i + 1)) (fun i => F (i + 1)) H' (fun i p hp => hH (i + 1) p hp) (fun i s e => h (i + 1) s (by simpa using e)) i s (by simpa using e)
/-- a settled list that did not stand in the base changes; what is known since the base stays -/
theorem Kn.thaw {p : Addr} {o o' : HO} {G2 : List Sl} (k : Kn K B S0 S σ H F G) (hp : S p = some o') (h0 : S0 p = none) (t : Thw S0 G2 G) : Kn K B S0 S0 σ (upd H p o) F G2 := by
  have hb : B p = none := by
    cases e : B p with
    | none => rfl
    | some x =>
      have := k.clean p x e
      rw [hp, h0] at this
      cases this
  have hF : ∀ i q, q ∈ F i → q ≠ p := fun i q hq e => by
    have := (k.off i q hq).1
    rw [e, hp] at this
    cases this
  refine ⟨Same.refl _, fun q x e => ?_, fun q x e => ?_, fun _ _ _ => rfl, fun i q hq => ?_, k.dj, t.len.trans k.len, ?_⟩
  · rw [upd_ne (ne_of_none e h0)]
    exact k.sub q x (k.s0 q x e)
  · rw [upd_ne (ne_of_none e hb)]
    exact k.keep q x e
  · obtain ⟨h1, h2, w, h3⟩ := k.off i q hq
    exact ⟨k.s0.free h1, h2, w, by rw [upd_ne (hF i q hq)]; exact h3⟩
  · exact t.ok (fun i => σ[i]?) F _ (fun i q hq => upd_ne (hF i q hq)) k.sl
section
variable {α : Type} [Py α] {xs : List α} {D : Ends}
/-- told.append(x), told.clear() where told is new since the base -/
theorem q_appN {β : Type} [Py β] {y : β} {G3 : List Sl} (h : EvX K te G (Fx.mk S0 xs) G1) (hy : EvX K ta G1 y G2) (hz : xs.length < 1000000) (t : Thw S0 G3 G2) (k : At K B S0 (u D) G3) : At K B S0 (tSeq (tDrop (tBM K "list" rAppend te (tCons ta tNil))) u D) G := fun S σ H F kn =>
  h B S0 S σ H F kn _ fun v S1 H1 e1 k1 r1 => by
    obtain ⟨⟨p, vs, rfl, hp, hr⟩, p', ep, h0⟩ := r1
    cases ep
    exact ⟨.inl ⟨rfl, _, SqL.of (k1.sub _ _ hp)⟩, hy B S0 S1 σ H1 F k1 _ fun w S2 H2 e2 k2 r2 => ⟨p, vs, w, rfl, rfl, k2.sub _ _ (e2 _ _ hp), by rw [hr.len]; exact Nat.lt_trans hz (by decide), k S0 σ _ F (k2.thaw (e2 _ _ hp) h0 t)⟩⟩
theorem q_clrN {G3 : List Sl} (h : EvX K te G (Fx.mk S0 xs) G1) (t : Thw S0 G3 G1) (k : At K B S0 (u D) G3) : At K B S0 (tSeq (tDrop (tBM0 K "list" rClear te)) u D) G := fun S σ H F kn =>
  h B S0 S σ H F kn _ fun v S1 H1 e1 k1 r1 => by
    obtain ⟨⟨p, vs, rfl, hp, hr⟩, p', ep, h0⟩ := r1
    cases ep
    exact ⟨.inl ⟨rfl, _, SqL.of (k1.sub _ _ hp)⟩, p, vs, rfl, rfl, k1.sub _ _ hp, k S0 σ _ F (k1.thaw hp h0 t)⟩
end
/-! ### loops whose turns may change what was told in them -/
theorem Kn.unfrz {S1 : Hp} (k : Kn K B S0 S σ H F (G.map (GL.frz S1))) : Kn K B S0 S σ H F G := by
  refine ⟨k.s0, k.sub, k.keep, k.clean, k.off, k.dj, by have := k.len; rw [List.length_map] at this; exact this, fun i s e => ?_⟩
  have z := k.sl i (GL.frz S1 s) (by rw [List.getElem?_map, e]; rfl)
  cases s with
  | no => exact True.intro
  | im x =>
    obtain ⟨v, h1, h2, h3⟩ := z
    exact ⟨v, h1, Py.mono h3 h2⟩
  | ow x => exact z
section
variable {α τ : Type} [Py α] {wi : TI} {g : TG} {tb : TS} {xs : List α}
theorem qg_invZ (γ : τ → List Sl) (I : List α → τ → Prop) (s0 : τ) (hi : ItG K wi G xs G1) (h0 : Le (γ s0) G1) (hI : I [] s0)
    (hs : ∀ pre x post s, pre ++ x :: post = xs → I pre s → ∀ S1, Reb B S0 S1 → ∃ G2 ts, TgG K g x ((γ s).map (frz S1)) G2 ts ∧ At K B S1 (tb { E with nx := Mid K B S1 (fun G' => ∃ s', G' = (γ s').map (frz S1) ∧ I (pre ++ [x]) s'), ct := Mid K B S1 (fun G' => ∃ s', G' = (γ s').map (frz S1) ∧ I (pre ++ [x]) s'), bk := u E }) G2)
    (hd : ∀ s, I xs s → At K B S0 (u E) (γ s)) : At K B S0 (tSeq (tFor wi g tb) u E) G := fun S σ H F kn =>
  hi B S0 S σ H F kn _ fun J S1 H1 e1 k1 wk => by
    have rb : Reb B S0 S1 := k1.rebOf
    refine ⟨fun i m σ H => ∃ pre post S F s, pre ++ post = xs ∧ pre.length = i ∧ post.length = m ∧ Kn K B S1 S σ H F ((γ s).map (frz S1)) ∧ I pre s, ⟨xs.length, [], xs, S1, F, s0, rfl, rfl, rfl, (k1.le h0).frz, hI⟩, ?_⟩
    rintro i m σ' H' ⟨pre, post, S2, F2, s, ex, rfl, rfl, k2, p⟩
    cases post with
    | nil =>
      refine .inl ⟨(wk S2 H' pre.length k2.s0 k2.sub).2 (by rw [← ex, List.append_nil]; exact Nat.le_refl _), ?_⟩
      rw [List.append_nil] at ex
      subst ex
      exact hd s p S2 σ' H' F2 (k2.unreb rb).unfrz
    | cons x post =>
      have hx : xs[pre.length]? = some x := by
        rw [← ex, List.getElem?_append_right (Nat.le_refl _), Nat.sub_self]
        rfl
      obtain ⟨go, yl⟩ := (wk S2 H' pre.length k2.s0 k2.sub).1 x hx
      refine .inr ⟨go, Mid K B S1 (fun G' => ∃ s', G' = (γ s').map (frz S1) ∧ I (pre ++ [x]) s'), ?_, ?_⟩
      · rintro σ3 H3 ⟨S3, F3, G3, k3, s3, e3, p3⟩
        subst e3
        exact ⟨post.length, by rw [List.length_cons]; omega, pre ++ [x], post, S3, F3, s3, by rw [← ex, List.append_assoc]; rfl, by rw [List.length_append]; rfl, rfl, k3, p3⟩
      · intro v H3 y
        obtain ⟨S3, gr, r⟩ := yl v H3 y
        obtain ⟨G2, ts, tg, bd⟩ := hs pre x post s ex p S1 rb
        exact tg.2 B S1 S3 σ' H3 F2 v (k2.grow gr) r _ fun σ4 k4 _ _ => bd S3 σ4 H3 F2 k4
end
end
end GL

set_option maxHeartbeats 4000000
namespace L2
open PySem PySem.Spec PyProof.Rows
/-- a tuple of two whole numbers in a heap -/
def Two (h : Heap) (v : Value) (m n : Int) : Prop := ∃ (t : Addr) (o : Obj) (c : Nat) (u1 u2 : Tok), v = .ref t ∧ h.get? t = some o ∧ o.cls = .type "tuple" ∧ o.data = .seq #[Value.int m u1, Value.int n u2] c
section
variable {prog : Program} {w : World} {A : Around} {E : Value → Shared → Prop} {s : Shared}
theorem two_key {h : Heap} {v : Value} {m n : Int} (x : Two h v m n) : G.tupKeyC h (fun _ => false) v = some [Sum.inl m, Sum.inl n] := by
  obtain ⟨t, o, c, u1, u2, e, ho, hc, hd⟩ := x
  rw [e]
  exact G.tupKeyC_of ho hc hd rfl
theorem key_le {m n m' n' : Int} (g : lexLt itemOrd [Sum.inl m', Sum.inl n'] [Sum.inl m, Sum.inl n] = false) : le2 (m, n) (m', n') := by
  rw [lex_false] at g
  have a1 := of_decide_eq_false (show decide (m' < m) = false from g.1)
  rcases g.2 with g2 | g2
  · exact .inl (of_decide_eq_true (show decide (m < m') = true from g2))
  · rw [lex_false] at g2
    have a2 := of_decide_eq_false (show decide (n' < n) = false from g2.1)
    show m < m' ∨ (m = m' ∧ n ≤ n')
    omega
/-- xs.sort(), pairs of whole numbers -/
theorem sort_two {a : Addr} {vs : List Value} {n : Nat} {Q : Value → Shared → Prop} (ho : s.heap.get? a = some (seqObj "list" vs.toArray n)) (hv : ∀ v ∈ vs, ∃ m k, Two s.heap v m k) (hz : vs.length ≤ sizeLine)
    (h : ∀ out : Array Value, out.toList.Perm vs → out.toList.Pairwise (fun u v => ∀ m n m' n', Two s.heap u m n → Two s.heap v m' n' → le2 (m, n) (m', n')) → Q .none { s with heap := sortedHeap s.heap a vs out }) :
    wpAny (model prog w) A (call (.builtin "list.sort") [.ref a]) Q E s := by
  obtain ⟨fs, hfs⟩ := tupsOf_all (h := s.heap) (vs := vs) fun v q => by
    obtain ⟨m, k, t, o, c, u1, u2, e, h1, h2, h3⟩ := hv v q
    exact ⟨.int m u1, t, o, _, c, e, h1, h2, h3, rfl, fun _ => ⟨m, u1, rfl⟩, fun z => absurd z Bool.false_ne_true⟩
  have hk : ∀ v, v ∈ vs → ∃ l, G.tupKeyC s.heap (fun _ => false) v = some l := fun v q => by
    obtain ⟨m, k, x⟩ := hv v q
    exact ⟨_, two_key x⟩
  refine wpAny_call_entry slot_list_sort ⟨_, ho, rfl⟩ entry_list_sort (G.list_sort_tups (shape := fun _ => false) ho hfs hk hz fun st pm so _ => ⟨_, rfl, ?_⟩) (args_list_sort _)
  have p2 : (arrOf st).toList.Perm (vs.map fun v => (v, v)) := by
    have q := Array.perm_iff_toList_perm.mp pm
    rw [pairsOf_toList] at q
    exact q.trans (List.Perm.of_eq (by rw [List.zip_eq_zipWith, List.zipWith_self]))
  have mm : ∀ p ∈ (arrOf st).toList, p.1 = p.2 ∧ p.2 ∈ vs := fun p hp => by
    obtain ⟨v, q, rfl⟩ := List.mem_map.mp (p2.mem_iff.mp hp)
    exact ⟨rfl, q⟩
  have sz : (arrOf st).size = (pairsOf vs).size := by
    rw [← Array.length_toList, ← Array.length_toList]
    exact (Array.perm_iff_toList_perm.mp pm).length_eq
  have pw := keyLe_of_sorted (κ := G.tupKindC s.heap (fun _ => false)) (xs := arrOf st) (fun p hp => by
    obtain ⟨e, q⟩ := mm p hp
    rw [e]
    exact hk _ q) (by rw [sz]; exact so)
  refine h _ ?_ ?_
  · rw [Array.toList_map]
    refine (p2.map (·.2)).trans (List.Perm.of_eq ?_)
    rw [List.map_map]
    exact (List.map_congr_left fun v _ => rfl).trans (List.map_id vs)
  · rw [Array.toList_map, List.pairwise_map]
    refine List.Pairwise.imp_of_mem (fun {p p'} q q' hle m n m' n' x x' => ?_) pw
    obtain ⟨k1, k2, z1, z2, hk⟩ := hle
    rw [(mm p q).1] at z1
    rw [(mm p' q').1] at z2
    have f1 := Option.some.inj (z1.symm.trans (two_key x))
    have f2 := Option.some.inj (z2.symm.trans (two_key x'))
    rw [f1, f2] at hk
    exact key_le hk
end
section
variable {P : Program} {w : World} {A : Around} {E : Value → Shared → Prop} {s : Shared}
theorem refs_in {L : List (Addr × List Int)} : ∀ us : List Value, (∀ u ∈ us, ∃ q ∈ L, u = Value.ref q.1) → ∃ M : List (Addr × List Int), us = M.map (fun q => Value.ref q.1) ∧ ∀ q ∈ M, q ∈ L
  | [], _ => ⟨[], rfl, fun q z => nomatch z⟩
  | u :: us, h => by
    obtain ⟨q, hq, e⟩ := h u List.mem_cons_self
    obtain ⟨M, e1, h1⟩ := refs_in us fun x hx => h x (List.mem_cons_of_mem _ hx)
    exact ⟨q :: M, by rw [List.map_cons, e, e1], fun r hr => (List.mem_cons.mp hr).elim (fun z => z ▸ hq) (h1 r)⟩
theorem two_isT {h : Heap} {b : Addr} {m n : Int} (x : IsT P w h [m, n] b) : Two h (.ref b) m n := by
  obtain ⟨o, items, c, h1, h2, h3, h4⟩ := x
  obtain ⟨l⟩ := items
  cases ints_of_items h4 with
  | cons _ t1 r =>
    cases r with
    | cons _ t2 r =>
      cases r
      exact ⟨b, o, c, t1, t2, rfl, h1, h2, h3⟩
theorem Two.keep {h h' : Heap} {v : Value} {m n : Int} (k : ∀ b o, h.get? b = some o → h'.get? b = some o) (x : Two h v m n) : Two h' v m n := by
  obtain ⟨t, o, c, u1, u2, e, h1, h2⟩ := x
  exact ⟨t, o, c, u1, u2, e, k t o h1, h2⟩
/-- sorted(s), s a set of pairs of whole numbers -/
theorem sorted_pset {a : Addr} {L : List (Addr × List Int)} {es : Array (Int × Value)} {ep : Nat} {t : SetTable} {Q : Value → Shared → Prop} (R : SetTR P w s.heap a L es ep t) (hh : A.handled = none) (h2 : ∀ p ∈ L, ∃ m n, p.2 = [m, n])
    (hQ : ∀ s' p (out : Array Value) (c : Nat) (M : List (Addr × List Int)), (∀ b o, s.heap.get? b = some o → s'.heap.get? b = some o) → s'.gens = s.gens → s'.os = s.os → s.heap.objs.size ≤ p →
      s'.heap.get? p = some (seqObj "list" out c) → out.toList = M.map (fun q => Value.ref q.1) → (∀ q, q ∈ M ↔ q ∈ L) → M.length < 64 → M.Nodup → M.Pairwise (fun q r => ∀ m n m' n', q.2 = [m, n] → r.2 = [m', n'] → le2 (m, n) (m', n')) → Q (.ref p) s') :
    wpAny (model P w) A (call (.builtin "sorted") [.ref a]) Q E s := by
  obtain ⟨o, ho, hex, hd⟩ := R.ob
  refine Calls.call_function_entry kind_sorted plain_sorted entry_sorted (args_sorted1 _) ?_
  unfold Builtin.«sorted»
  refine wpAny_bind (m := checkCount "sorted" 1 1 _) (wpAny_pure ?_)
  refine wpAny_bind (collect_set (A := A.in1) hh ⟨o, ho, hex.1, hd⟩ R.fits (by have z1 := R.size; have z2 := R.few; unfold scanBound; omega) R.tab.ris R.led fun s1 vs k1 hz g1 o1 pm => ?_)
  have erow : es.toList.map (·.2) = L.map fun q => Value.ref q.1 := by rw [R.rows]; unfold rowsOf; rw [List.map_map] <;> rfl
  rw [erow] at pm
  have few : vs.length < 64 := by rw [pm.length_eq, List.length_map]; exact R.few
  refine wpAny_bind (wpAny_newList ?_ (by rw [sizeLine_eq]; omega))
  have hob : (s1.heap.push (seqObj "list" vs.toArray 0)).get? s1.heap.objs.size = some (seqObj "list" vs.toArray 0) := Heap.get?_push_size _ rfl
  have hk : ∀ b u, s.heap.get? b = some u → (s1.heap.push (seqObj "list" vs.toArray 0)).get? b = some u := fun b u e => Heap.get?_push_of_some _ (k1 b u e)
  have ht : ∀ q ∈ L, ∀ m n, q.2 = [m, n] → Two (s1.heap.push (seqObj "list" vs.toArray 0)) (.ref q.1) m n := fun q hq m n e => by
    have z := R.tup q hq
    rw [e] at z
    exact (two_isT z).keep hk
  refine wpAny_bind (wpAny_holding (sort_two (s := { s1 with heap := s1.heap.push (seqObj "list" vs.toArray 0) }) hob (fun v hv => ?_) (by rw [sizeLine_eq]; omega) fun out a1 a2 => ?_))
  · obtain ⟨q, hq, e⟩ := List.mem_map.mp (pm.mem_iff.mp hv)
    obtain ⟨m, n, e2⟩ := h2 q hq
    rw [← e]
    exact ⟨m, n, ht q hq m n e2⟩
  obtain ⟨c, hc⟩ := sortedHeap_at (vs := vs) (out := out) hob
  have pm2 := a1.trans pm
  obtain ⟨M, eM, hM⟩ := refs_in (L := L) out.toList fun v hv => by
    obtain ⟨q, hq, e⟩ := List.mem_map.mp (pm2.mem_iff.mp hv)
    exact ⟨q, hq, e.symm⟩
  have one : ∀ q ∈ L, ∀ r ∈ L, q.1 = r.1 → q = r := fun q hq r hr e => by
    have z1 := R.tup q hq
    have z2 := R.tup r hr
    rw [e] at z1
    exact Prod.ext e (z1.inj z2)
  have nref : (L.map fun q => Value.ref q.1).Nodup := List.pairwise_map.mpr (List.Pairwise.imp_of_mem (fun {q r} hq hr ne e => by
    injection e with e
    exact ne (one q hq r hr e)) (nodup_of_map R.nd))
  have nM : M.Nodup := by
    have z := pm2.nodup_iff.mpr nref
    rw [eM] at z
    exact nodup_of_map z
  refine wpAny_pure ⟨_, rfl, hQ _ s1.heap.objs.size out c M (fun b u e => ?_) g1 o1 hz hc eM (fun q => ⟨hM q, fun hq => ?_⟩) (by rw [← List.length_map (f := fun q : Addr × List Int => Value.ref q.1), ← eM, a1.length_eq]; exact few) nM ?_⟩
  · have q := k1 b u e
    have lt := Heap.lt_size q
    show (sortedHeap (s1.heap.push (seqObj "list" vs.toArray 0)) s1.heap.objs.size vs out).get? b = some u
    rw [sortedHeap_old (Nat.ne_of_lt lt) (by rw [size_push']; exact Nat.lt_succ_of_lt lt)]
    exact Heap.get?_push_of_some _ q
  · have z : Value.ref q.1 ∈ out.toList := pm2.mem_iff.mpr (List.mem_map.mpr ⟨q, hq, rfl⟩)
    rw [eM] at z
    obtain ⟨r, hr, e⟩ := List.mem_map.mp z
    injection e with e
    rw [← one r (hM r hr) q hq e]
    exact hr
  · rw [eM] at a2
    refine List.Pairwise.imp_of_mem (fun {q r} hq hr hle m n m' n' e e' => ?_) (List.pairwise_map.mp a2)
    exact hle m n m' n' (ht q (hM q hq) m n e) (ht r (hM r hr) m' n' e')
end
section
variable {X : Cx}
/-- sorted(set(xs)), xs a list of pairs of whole numbers -/
def tSortSet2 (K : PySem.W.Frag) (ta : TE) : TE := fun σ H Q => ta σ H fun x H1 => ∃ (l : Addr) (xs : List V), x = V.ref l ∧ SqL K H1 l xs ∧ xs.length < 64 ∧ (∀ x ∈ xs, ∃ m n : Int, TupI K H1 x [m, n]) ∧
  ∀ (ys : List V) (p : Addr), (∀ y ∈ ys, y ∈ xs) → (∀ x ∈ xs, ∀ m n, TupI K H1 x [m, n] → ∃ y ∈ ys, ∀ m' n', TupI K H1 y [m', n'] → (m', n') = (m, n)) → ys.Pairwise (fun x y => ∀ m n m' n', TupI K H1 x [m, n] → TupI K H1 y [m', n'] → le2 (m, n) (m', n') ∧ (m, n) ≠ (m', n')) → ys.length < 64 → H1 p = none → Q (.ref p) (upd H1 p (.lst ys))
theorem keys_of {K : PySem.W.Frag} {H : Hp} : ∀ {xs : List V}, (∀ x ∈ xs, ∃ m n : Int, TupI K H x [m, n]) → ∃ ks : List (Addr × List Int), xs = ks.map (fun p => V.ref p.1) ∧ ∀ p ∈ ks, SqT K H p.1 (p.2.map V.int) ∧ ∃ m n, p.2 = [m, n]
  | [], _ => ⟨[], rfl, fun p z => nomatch z⟩
  | x :: xs, h => by
    obtain ⟨m, n, t, e, ht⟩ := h x List.mem_cons_self
    obtain ⟨ks, e1, h1⟩ := keys_of (xs := xs) fun y hy => h y (List.mem_cons_of_mem _ hy)
    refine ⟨(t, [m, n]) :: ks, by rw [List.map_cons, e, e1], fun p hp => ?_⟩
    rcases List.mem_cons.mp hp with z | z
    · rw [z]; exact ⟨ht, m, n, rfl⟩
    · exact h1 p z
theorem pe_sortSet2 {a : Expr} {ta : TE} {p p2 q pos : Pos} (hc : X.calm = true) (hu : X.A.units + 64 < cLine) (hg : Gl X "sorted") (hm : X.mg "sorted" = none) (hg2 : Gl X "set") (hm2 : X.mg "set" = none) (ha : PE X a ta)
    (na : starEach [a] X.env = (false, eval a X.env) :: starEach [] X.env := by rfl) : PE X (.Call (.Name "sorted" p) [.Call (.Name "set" p2) [a] [] q] [] pos) (tSortSet2 X.K ta) := by
  refine ⟨fun pins s σ H Q I h => ?_⟩
  refine Call_ (ld_blt I hg hm PyProof.Rows.boot_sorted ?_)
  refine PyProof.Rows.callWith_builtin1 (PyProof.Rows.args_cons ?_ rfl) rfl rfl
  refine Call_ (ld_blt I hg2 hm2 PyProof.Rows.boot_set ?_)
  refine PyProof.Rows.callWith_type1 (PyProof.Rows.args_cons (thn (ha.run pins s σ H _ I h) fun v s1 ⟨x, H1, I1, r1, q1⟩ => PyProof.Rows.args_nil ?_) na) na rfl
  obtain ⟨l, xs, rfl, hq, h1, hx, q1⟩ := q1
  cases r1
  obtain ⟨ks, ek, hk⟩ := keys_of hx
  obtain ⟨its, r, pl, hz⟩ := I1.list hq
  rw [ek] at r
  have hlk : ks.length < 64 := by rw [ek, List.length_map] at h1; exact h1
  refine call_set_tups (P := X.prog) (w := X.w) ks (I1.ok.hd hc) pl.isList (by simpa using refs_of_vals r) (fun p hp => I1.isT (hk p hp).1) hlk (by omega) fun h' tk L es ep t R g kp => ?_
  refine PyProof.Rows.args_nil ?_
  have I2 : Inv X pins σ H1 { s1 with heap := h', toks := tk } := I1.kept kp
  have hL : ∀ p ∈ L, p ∈ ks := fun p hp => List.mem_of_mem_take (g.sub p hp)
  refine sorted_pset (s := { s1 with heap := h', toks := tk }) R (I2.ok.hd hc) (fun p hp => (hk p (hL p hp)).2) fun s' p out c M k gg o hp hgt hout hM hlM nM pw => ?_
  have hlen : (M.map fun q => V.ref q.1).length ≤ sizeLine := by rw [List.length_map, sizeLine_eq]; omega
  have hn : H1 p = none := I2.hok.fresh hp
  have J : Inv X pins σ (upd H1 p (.lst (M.map fun q => V.ref q.1))) { { s1 with heap := h', toks := tk } with heap := s'.heap, gens := s'.gens, drawn := s'.drawn, toks := s'.toks } :=
    I2.call (ch := []) (Un.laid k hp hn) (I2.hok.laid k hp ⟨hlen, out.toList, c, by rw [hout]; exact vals_of_refs M, hgt⟩) (by rw [gg]; exact I2.bare) (fun _ z => nomatch z)
  have e : s' = { { s1 with heap := h', toks := tk } with heap := s'.heap, gens := s'.gens, drawn := s'.drawn, toks := s'.toks } := by
    cases s'
    cases s1
    cases o
    rfl
  rw [e]
  have tup_eq : ∀ q ∈ ks, ∀ m n, TupI X.K H1 (V.ref q.1) [m, n] → q.2 = [m, n] := fun q hq m n ⟨t, et, ht⟩ => by
    cases et
    exact (I1.isT (hk q hq).1).inj (I1.isT ht)
  refine ⟨.ref p, _, J, rfl, q1 _ p (fun y hy => ?_) (fun x hx' m n tx => ?_) ?_ (by rw [List.length_map]; exact hlM) hn⟩
  · obtain ⟨q, hq, rfl⟩ := List.mem_map.mp hy
    rw [ek]
    exact List.mem_map.mpr ⟨q, hL q ((hM q).mp hq), rfl⟩
  · rw [ek] at hx'
    obtain ⟨q, hq, rfl⟩ := List.mem_map.mp hx'
    have e1 := tup_eq q hq m n tx
    obtain ⟨r, hr, e2⟩ := List.mem_map.mp (g.all q (by rw [List.take_length]; exact hq))
    refine ⟨.ref r.1, List.mem_map.mpr ⟨r, (hM r).mpr hr, rfl⟩, fun m' n' ty => ?_⟩
    have z := tup_eq r (hL r hr) m' n' ty
    rw [e2, e1] at z
    simp only [List.cons.injEq, and_true] at z
    rw [z.1, z.2]
  · rw [List.pairwise_map]
    have nd2 : M.Pairwise (fun q r => q.2 ≠ r.2) := by
      refine List.Pairwise.imp_of_mem (fun {q r} hq hr ne e => ?_) nM
      have := List.pairwise_map.mp R.nd
      exact ne (by
        have inj : ∀ {l : List (Addr × List Int)}, (l.map (·.2)).Nodup → ∀ q ∈ l, ∀ r ∈ l, q.2 = r.2 → q = r := by
          intro l
          induction l with
          | nil => intro _ q hq; cases hq
          | cons x l ih =>
            intro hn q hq r hr e
            rw [List.map_cons, List.nodup_cons] at hn
            rcases List.mem_cons.mp hq with z1 | z1
            · rcases List.mem_cons.mp hr with z2 | z2
              · rw [z1, z2]
              · exact absurd (List.mem_map.mpr ⟨r, z2, by rw [← e, z1]⟩) hn.1
            · rcases List.mem_cons.mp hr with z2 | z2
              · exact absurd (List.mem_map.mpr ⟨q, z1, by rw [e, z2]⟩) hn.1
              · exact ih hn.2 q z1 r z2 e
        exact inj R.nd q ((hM q).mp hq) r ((hM r).mp hr) e)
    refine List.Pairwise.imp_of_mem (fun {q r} hq hr ⟨h3, h4⟩ m n m' n' t1 t2 => ?_) (pw.and nd2)
    have e1 := tup_eq q (hL q ((hM q).mp hq)) m n t1
    have e2 := tup_eq r (hL r ((hM r).mp hr)) m' n' t2
    refine ⟨h3 m n m' n' e1 e2, fun z => h4 ?_⟩
    cases z
    rw [e1, e2]
end
end L2
namespace GL
open PySem PySem.Spec PyProof.Rows L2
section
variable {K : Fg} {B S0 S1 S S' : Hp} {σ : L2.St} {H H' : Hp} {F : Nat → List Addr} {G G' G1 G2 G3 : List Sl} {ta tb tc te : TE} {i j : Nat} {u : TS} {E : Ends}
def lt2 (a b : Int × Int) : Prop := a.1 < b.1 ∨ (a.1 = b.1 ∧ a.2 < b.2)
theorem lt2_of {a b : Int × Int} (h : le2 a b) (ne : a ≠ b) : lt2 a b := by
  unfold le2 at h
  unfold lt2
  rcases h with h | ⟨h1, h2⟩
  · exact .inl h
  · by_cases e : a.2 = b.2
    · exact absurd (Prod.ext h1 e) ne
    · exact .inr ⟨h1, by omega⟩
theorem lt2_ne {a b : Int × Int} (h : lt2 a b) : a ≠ b := fun e => by
  rw [e] at h
  unfold lt2 at h
  omega
theorem lt2_asymm {a b : Int × Int} (h : lt2 a b) (h' : lt2 b a) : False := by unfold lt2 at *; omega
/-- sorted, each once, of pairs -/
@[irreducible] def usrt2 (xs : List (Int × Int)) : List (Int × Int) := srt2 xs.eraseDups
theorem mem_usrt2 {xs : List (Int × Int)} {k : Int × Int} : k ∈ usrt2 xs ↔ k ∈ xs := by
  unfold usrt2
  rw [(srt2_perm _).mem_iff, List.mem_eraseDups]
theorem nodup_eraseDups2 {δ : Type} [BEq δ] [LawfulBEq δ] (xs : List δ) : xs.eraseDups.Nodup := by
  generalize hn : xs.length = n
  induction n using Nat.strongRecOn generalizing xs with
  | _ n ih =>
    cases xs with
    | nil => simp
    | cons a l =>
      rw [List.eraseDups_cons]
      refine List.nodup_cons.mpr ⟨?_, ih _ ?_ _ rfl⟩
      · rw [List.mem_eraseDups, List.mem_filter]; simp
      · have := List.length_filter_le (fun b => !b == a) l
        simp only [List.length_cons] at hn
        omega
theorem usrt2_pw (xs : List (Int × Int)) : (usrt2 xs).Pairwise lt2 := by
  unfold usrt2
  have h1 := srt2_sorted xs.eraseDups
  have h2 : (srt2 xs.eraseDups).Nodup := (srt2_perm _).symm.nodup (nodup_eraseDups2 xs)
  exact (h1.and h2).imp fun ⟨a, b⟩ => lt2_of a b
theorem pw_lt2_unique : ∀ {xs ys : List (Int × Int)}, xs.Pairwise lt2 → ys.Pairwise lt2 → (∀ k, k ∈ xs ↔ k ∈ ys) → xs = ys
  | [], [], _, _, _ => rfl
  | [], y :: ys, _, _, h => absurd ((h y).mpr List.mem_cons_self) (by simp)
  | x :: xs, [], _, _, h => absurd ((h x).mp List.mem_cons_self) (by simp)
  | x :: xs, y :: ys, hx, hy, h => by
    have hx' := List.pairwise_cons.mp hx
    have hy' := List.pairwise_cons.mp hy
    have e : x = y := by
      rcases List.mem_cons.mp ((h x).mp List.mem_cons_self) with e | e
      · exact e
      · rcases List.mem_cons.mp ((h y).mpr List.mem_cons_self) with e2 | e2
        · exact e2.symm
        · exact (lt2_asymm (hx'.1 _ e2) (hy'.1 _ e)).elim
    subst e
    rw [pw_lt2_unique hx'.2 hy'.2 fun k => ?_]
    constructor
    · intro hk
      rcases List.mem_cons.mp ((h k).mp (List.mem_cons_of_mem _ hk)) with e | e
      · exact absurd e.symm (lt2_ne (hx'.1 _ hk))
      · exact e
    · intro hk
      rcases List.mem_cons.mp ((h k).mpr (List.mem_cons_of_mem _ hk)) with e | e
      · exact absurd e.symm (lt2_ne (hy'.1 _ hk))
      · exact e
theorem usrt2_eq {xs ys : List (Int × Int)} (h : ys.Pairwise lt2) (m : ∀ k, k ∈ ys ↔ k ∈ xs) : ys = usrt2 xs := pw_lt2_unique h (usrt2_pw xs) fun k => (m k).trans mem_usrt2.symm
/-- values drawn from a list of data -/
theorem RepL.pick {α : Type} [Py α] {vs : List V} {xs : List α} (h : RepL K S vs xs) : ∀ {ws : List V}, (∀ w ∈ ws, w ∈ vs) → ∃ ys : List α, RepL K S ws ys ∧ ∀ y ∈ ys, y ∈ xs
  | [], _ => ⟨[], True.intro, fun y z => nomatch z⟩
  | w :: ws, hw => by
    obtain ⟨i, hi⟩ := List.getElem?_of_mem (hw w List.mem_cons_self)
    obtain ⟨x, h1, h2⟩ := h.got hi
    obtain ⟨ys, h3, h4⟩ := RepL.pick h (ws := ws) fun z hz => hw z (List.mem_cons_of_mem _ hz)
    exact ⟨x :: ys, ⟨h2, h3⟩, fun y hy => (List.mem_cons.mp hy).elim (fun e => e ▸ List.mem_of_getElem? h1) (h4 y)⟩
theorem el_sortSet2 {xs : List (Int × Int)} (h : EvC K ta G xs G1) (hz : xs.length < 64) : EvL K (tSortSet2 K ta) G (usrt2 xs) G1 := fun B S0 S σ H F k Q q =>
  h B S0 S σ H F k _ fun v S1 H1 e1 k1 r1 => by
    obtain ⟨p, vs, rfl, hp, hr⟩ := r1.at k1
    refine ⟨p, vs, rfl, SqL.of hp, by rw [hr.len]; exact hz, all_rep2 k1.sub hr, fun ys l hin hall pw hl hf => ?_⟩
    obtain ⟨zs, h1, h2⟩ := hr.pick hin
    have pz : zs.Pairwise lt2 := by
      have : ∀ {us : List V} {zs : List (Int × Int)}, RepL K S1 us zs → us.Pairwise (fun x y => ∀ m n m' n', TupI K H1 x [m, n] → TupI K H1 y [m', n'] → le2 (m, n) (m', n') ∧ (m, n) ≠ (m', n')) → zs.Pairwise lt2 := by
        intro us
        induction us with
        | nil => intro zs hr _; cases zs with | nil => exact List.Pairwise.nil | cons _ _ => exact hr.elim
        | cons u us ih =>
          intro zs hr hp
          cases zs with
          | nil => exact hr.elim
          | cons z zs =>
            have hp' := List.pairwise_cons.mp hp
            refine List.pairwise_cons.mpr ⟨fun y hy => ?_, ih hr.2 hp'.2⟩
            obtain ⟨i, hi⟩ := List.getElem?_of_mem hy
            obtain ⟨w, hw, hr'⟩ := hr.2.get hi
            obtain ⟨a, b⟩ := hp'.1 w (List.mem_of_getElem? hw) _ _ _ _ (rep2 k1.sub hr.1) (rep2 k1.sub hr')
            exact lt2_of a b
      exact this h1 pw
    have e : zs = usrt2 xs := usrt2_eq pz fun x => ⟨h2 x, fun hx => by
      obtain ⟨i, hi⟩ := List.getElem?_of_mem hx
      obtain ⟨w, hw, hr'⟩ := hr.get hi
      obtain ⟨y, hy, ty⟩ := hall w (List.mem_of_getElem? hw) _ _ (rep2 k1.sub hr')
      obtain ⟨i', hi'⟩ := List.getElem?_of_mem hy
      obtain ⟨x', hx', hr''⟩ := h1.got hi'
      have e : (x'.1, x'.2) = (x.1, x.2) := ty _ _ (rep2 k1.sub hr'')
      rw [show x = x' from e.symm]
      exact List.mem_of_getElem? hx'⟩
    rw [e] at h1
    exact mk_list k1 hf h1 fun p vs S2 H2 e2 k2 a b c d r => q p vs S2 H2 (e1.trans e2) k2 a b c d r
end
end GL

namespace GL
open PySem PySem.Spec PyProof.Rows L2
section
variable {K : Fg} {B S0 S1 S S' D : Hp} {σ : L2.St} {H H' : Hp} {F : Nat → List Addr} {G G' G1 G2 G3 : List Sl} {ta tb tc te : TE} {i j : Nat} {t u : TS} {E : Ends}
section
variable {α β γ δ : Type} [Py α] [Py β] [Py γ] [Py δ] [PyF α] [PyF β] [PyF γ] [PyF δ] {g1 g2 g3 : TG} {t1 t2 t3 : List Nat}
theorem tg_pairF {w : Fx (α × β)} (h1 : TgG K g1 (Fx.mk w.D w.x.1) G G1 t1) (h2 : TgG K g2 (Fx.mk w.D w.x.2) G1 G2 t2) : TgG K (gTup K 2 (gCons g1 (gCons g2 gNil))) w G G2 (t1 ++ t2) := ⟨fun j hj => (h2.1 j (notL hj).2).trans (h1.1 j (notL hj).1), fun B S0 S σ H F v k r Q q => by
  obtain ⟨p, a, b, rfl, hp, ra, rb⟩ := r
  refine ⟨p, [a, b], rfl, seqT k.sub hp, rfl, a, [b], rfl, h1.2 B S0 S σ H F a k ra _ fun σ1 k1 o1 w1 => ⟨b, [], rfl, h2.2 B S0 S σ1 H F b k1 rb _ fun σ2 k2 o2 w2 => ⟨rfl, q σ2 k2 (fun j hj => (o2 j (notL hj).2).trans (o1 j (notL hj).1)) fun vs hv => ?_⟩⟩⟩
  rw [w2 vs fun t ht => hv t (List.mem_append_right _ ht), w1 vs fun t ht => hv t (List.mem_append_left _ ht)]⟩
theorem atI_neg {vs : List V} {v : V} {n : Nat} (hl : vs.length = n + 1) (h : vs[n]? = some v) : atI vs (-1) = some v := by
  have e : ixN vs.length (-1) = some n := by
    unfold ixN
    rw [hl]
    simp
    try omega
  unfold atI
  rw [e]
  exact h
theorem ev_smLF {w : Fx (Sum (T3 α β γ) (α × δ))} (ha : EvX K ta G w G1) : EvX K (tOp (rIxT K) ta (tUn (rU fun i => .int (-i)) (tC (.int 1)))) G (Fx.mk w.D (smL w.x)) G1 := fun B S0 S σ H F k Q q =>
  ha B S0 S σ H F k _ fun v S1 H1 e1 k1 r1 => by
    obtain ⟨D, x⟩ := w
    cases x with
    | inl y =>
      obtain ⟨p, a, b, c, rfl, hp, h1, h2, h3⟩ := r1
      exact ⟨1, rfl, p, _, -1, c, rfl, rfl, seqT k1.sub hp, atI_neg rfl rfl, q c S1 H1 e1 k1 h3⟩
    | inr y =>
      obtain ⟨p, a, b, rfl, hp, h1, h2⟩ := r1
      exact ⟨1, rfl, p, _, -1, b, rfl, rfl, seqT k1.sub hp, atI_neg rfl rfl, q b S1 H1 e1 k1 h2⟩
end
section
variable {α β ω : Type} [Py α] [Py β] [Py ω] {D : Ends}
/-- told.append(x), told one of two lists that is new since the base -/
theorem q_appNS {y : ω} {w : Sum (List α) (List β)} {G3 : List Sl} (h : EvX K te G (Fx.mk S0 w) G1) (hy : EvX K ta G1 y G2) (hz : (match w with | .inl xs => xs.length | .inr xs => xs.length) < 1000000) (t : Thw S0 G3 G2) (k : At K B S0 (u D) G3) : At K B S0 (tSeq (tDrop (tBM K "list" rAppend te (tCons ta tNil))) u D) G := by
  cases w with
  | inl xs => exact q_appN (xs := xs) (fun B S0 S σ H F kn Q q => h B S0 S σ H F kn Q fun v S' H' e k' r => q v S' H' e k' r) hy hz t k
  | inr xs => exact q_appN (xs := xs) (fun B S0 S σ H F kn Q q => h B S0 S σ H F kn Q fun v S' H' e k' r => q v S' H' e k' r) hy hz t k
end
/-- len(set(xs)), no number twice -/
theorem ev_lenSet {xs : List Int} (h : EvC K ta G xs G1) (hz : xs.length < 64) (nd : xs.Nodup) : EvX K (tLenSetI K ta) G (xs.length : Int) G1 := fun B S0 S σ H F k Q q =>
  h B S0 S σ H F k _ fun v S1 H1 e1 k1 r1 => by
    obtain ⟨p, vs, h1, h2, h3⟩ := r1.at k1
    exact ⟨p, xs, h1, SqL.of (by rw [h2, h3.ints]), hz, nd, q _ S1 H1 e1 k1 rfl⟩
theorem EvX.p2L {α β γ : Type} [Py α] [Py β] [Py γ] [Inhabited β] {x : α × Sum β γ} (h : EvX K te G x G1) (hl : x.2.isLeft = true) : EvX K te G ((x.1, GL.lG x.2) : α × β) G1 := by
  obtain ⟨a, s⟩ := x
  cases s with
  | inl y => exact fun B S0 S σ H F k Q q => h B S0 S σ H F k Q fun v S' H' e k' r => q v S' H' e k' r
  | inr y => cases hl
/-! slices whose bounds turn an owned thing -/
def EvOS (K : Fg) (t : TO) (G : List Sl) (o : Option Int) (G' : List Sl) : Prop := ∀ B S0 S σ H F, Kn K B S0 S σ H F G → ∀ Q : Option Int → Hp → Prop, (∀ S' H', Same S S' → Kn K B S0 S' σ H' F G' → Q o H') → t σ H Q
theorem eos_none : EvOS K tNoPart G none G := fun B S0 S σ H F k Q q => q S H (Same.refl _) k
theorem eos_some {n : Int} (h : EvX K ta G n G1) : EvOS K (tPart ta) G (some n) G1 := fun B S0 S σ H F k Q q => h B S0 S σ H F k _ fun v S1 H1 e1 k1 r1 => ⟨n, r1, q S1 H1 e1 k1⟩
theorem el_sliceX {α : Type} [Py α] {xs : List α} {tl th : TO} {lo hi : Option Int} (h : EvX K ta G xs G1) (hl : EvOS K tl G1 lo G2) (hh : EvOS K th G2 hi G3) : EvL K (tSl (rSlL K) ta tl th) G (cutL xs lo hi) G3 := fun B S0 S σ H F k Q q =>
  h B S0 S σ H F k _ fun v S1 H1 e1 k1 r1 => hl B S0 S1 σ H1 F k1 _ fun S2 H2 e2 k2 => hh B S0 S2 σ H2 F k2 _ fun S3 H3 e3 k3 => by
    obtain ⟨p, vs, rfl, hp, hr⟩ := Py.mono (e2.trans e3) r1
    exact ⟨p, vs, rfl, SqL.of (k3.sub _ _ hp), fun l hl => mk_list k3 hl (hr.cut lo hi) fun p vs S4 H4 e4 k4 a b c d r => q p vs S4 H4 ((e1.trans (e2.trans e3)).trans e4) k4 a b c d r⟩
end
end GL

/-! The laws' pens: a list of a list of whole numbers and two whole numbers. -/
namespace GL
open PySem PySem.Spec PyProof.Rows L2
structure Pen where
  a : Addr
  q : Addr
  l : List Int
  p : Nat
  w : Int
instance : Own Pen := ⟨fun K S H v ps x => v = .ref x.a ∧ ps = [x.a, x.q] ∧ H x.a = some (.lst [.ref x.q, .int x.p, .int x.w]) ∧ H x.q = some (.lst (x.l.map V.int)), fun {K S S' H H' v ps x} e a ⟨h1, h2, h3, h4⟩ =>
  ⟨h1, h2, by rw [a x.a (by rw [h2]; simp)]; exact h3, by rw [a x.q (by rw [h2]; simp)]; exact h4⟩⟩
instance : Anch Pen := ⟨fun x => (.ref x.a, [x.a, x.q]), fun ⟨h1, h2, _⟩ => by rw [h1, h2]⟩
instance : OwnI Pen := ⟨fun h => h⟩
section
variable {K : Fg} {B S0 S1 S S' D : Hp} {σ : L2.St} {H H' : Hp} {F : Nat → List Addr} {G G' G1 G2 G3 : List Sl} {ta tb tc te : TE} {i j : Nat} {t u : TS} {E : Ends}
theorem Kn.setOwns {α : Type} [Own α] {x : α} {v : V} {i : Nat} {ps : List Addr} (k : Kn K B S0 S σ H F G) (r : Own.own K S H v ps x) (hi : G[i]?.isSome = true) (hp : ∀ p ∈ ps, S p = none ∧ B p = none ∧ (∃ o, H p = some o) ∧ ∀ j, p ∉ F j) :
    Kn K B S0 S (σ.set i (some v)) H (upF F i ps) (G.set i (.ow x)) := by
  have hl := isSome_lt hi
  refine ⟨k.s0, k.sub, k.keep, k.clean, fun j q hq => ?_, fun a b q ha hb' => ?_, by rw [List.length_set, List.length_set]; exact k.len, fun j s e => ?_⟩
  · by_cases e : j = i
    · subst e
      rw [upF_self] at hq
      exact ⟨(hp q hq).1, (hp q hq).2.1, (hp q hq).2.2.1⟩
    · rw [upF_ne e] at hq
      exact k.off j q hq
  · by_cases ea : a = i
    · by_cases eb : b = i
      · rw [ea, eb]
      · rw [ea, upF_self] at ha
        rw [upF_ne eb] at hb'
        exact absurd hb' ((hp q ha).2.2.2 b)
    · rw [upF_ne ea] at ha
      by_cases eb : b = i
      · rw [eb, upF_self] at hb'
        exact absurd ha ((hp q hb').2.2.2 a)
      · rw [upF_ne eb] at hb'
        exact k.dj a b q ha hb'
  · rcases set_get e with ⟨rfl, rfl⟩ | ⟨ne, e⟩
    · rw [upF_self]
      exact ⟨v, List.getElem?_set_self (by rw [← k.len]; exact hl), r⟩
    · rw [List.getElem?_set_ne (fun z => ne z.symm), upF_ne ne]
      exact k.sl j s e
variable {z : Pen}
theorem ev_pen1 (hi : G[i]? = some (.ow z)) : EvX K (tOp (rIxL K) (tVar i) (tC (.int 1))) G (z.p : Int) G := fun B S0 S σ H F k Q q => by
  obtain ⟨v, h1, h2, h3, h4, h5⟩ := k.ow hi
  exact ⟨v, h1, z.a, _, 1, .int z.p, h2, rfl, SqL.of h4, atI_nat (j := 1) rfl, q _ S H (Same.refl _) k rfl⟩
theorem ev_pen2 (hi : G[i]? = some (.ow z)) : EvX K (tOp (rIxL K) (tVar i) (tC (.int 2))) G z.w G := fun B S0 S σ H F k Q q => by
  obtain ⟨v, h1, h2, h3, h4, h5⟩ := k.ow hi
  exact ⟨v, h1, z.a, _, 2, .int z.w, h2, rfl, SqL.of h4, atI_nat (j := 2) rfl, q _ S H (Same.refl _) k rfl⟩
theorem ev_penLen (hi : G[i]? = some (.ow z)) : EvX K (tCB (rLenS K) (tCons (tOp (rIxL K) (tVar i) (tC (.int 0))) tNil)) G (z.l.length : Int) G := fun B S0 S σ H F k Q q => by
  obtain ⟨v, h1, h2, h3, h4, h5⟩ := k.ow hi
  exact ⟨v, h1, z.a, _, 0, .ref z.q, h2, rfl, SqL.of h4, atI_nat (j := 0) rfl, z.q, _, rfl, .inl (SqL.of h5), q _ S H (Same.refl _) k (by rw [List.length_map]; rfl)⟩
theorem ev_penAt {n : Int} (hi : G[i]? = some (.ow z)) (hb : EvX K tb G n G) (h : 0 ≤ n ∧ n < z.l.length) : EvX K (tOp (rIxL K) (tOp (rIxL K) (tVar i) (tC (.int 0))) tb) G (ix z.l n) G := fun B S0 S σ H F k Q q => by
  obtain ⟨v, h1, h2, h3, h4, h5⟩ := k.ow hi
  refine ⟨v, h1, z.a, _, 0, .ref z.q, h2, rfl, SqL.of h4, atI_nat (j := 0) rfl, hb B S0 S σ H F k _ fun w S2 H2 e2 k2 r2 => ?_⟩
  obtain ⟨v', h1', h2', h3', h4', h5'⟩ := k2.ow hi
  refine ⟨z.q, _, n, .int (ix z.l n), rfl, r2, SqL.of h5', atI_of h.1 ?_, q _ S2 H2 e2 k2 rfl⟩
  rw [List.getElem?_map, ix_at h.1 h.2]
  rfl
theorem pen_upd {v : V} {p : Nat} {w : Int} (k : Kn K B S0 S σ H F G) (hi : G[i]? = some (.ow z)) : Kn K B S0 S σ (upd H z.a (.lst [.ref z.q, .int p, .int w])) F (G.set i (.ow (Pen.mk z.a z.q z.l p w))) := by
  obtain ⟨v, h1, h2, h3, h4, h5⟩ := k.ow hi
  have ne : z.q ≠ z.a := fun e => by
    rw [e, h4] at h5
    injection h5 with h5
    injection h5 with h5
    cases hl : z.l with
    | nil => rw [hl] at h5; cases h5
    | cons x l => rw [hl] at h5; injection h5 with h6; cases h6
  refine k.mut h1 (fun q hq => upd_ne fun e => hq (by rw [h3, e]; simp)) (fun q hq => ?_) ⟨h2, h3, upd_same, by rw [upd_ne ne]; exact h5⟩
  by_cases e : q = z.a
  · exact ⟨_, by rw [e]; exact upd_same⟩
  · obtain ⟨_, _, o, h⟩ := k.off i q hq
    exact ⟨o, by rw [upd_ne e]; exact h⟩
theorem q_pen1 {n : Int} (p : Nat) (h : EvX K te G n G) (hi : G[i]? = some (.ow z)) (hn : n = (p : Int)) (k : At K B S0 (u E) (G.set i (.ow (Pen.mk z.a z.q z.l p z.w)))) : At K B S0 (tSeq (tAsg te (gSub (tVar i) (tC (.int 1)) rSetL)) u E) G := fun S σ H F kn =>
  h B S0 S σ H F kn _ fun v S1 H1 e1 k1 r1 => by
    obtain ⟨w, h1, h2, h3, h4, h5⟩ := k1.ow hi
    refine ⟨w, h1, z.a, _, 1, 1, h2, rfl, h4, rfl, k S1 σ _ F ?_⟩
    rw [show v = .int n from r1, hn]
    exact pen_upd (v := w) k1 hi
theorem q_pen2 {n : Int} (h : EvX K te G n G) (hi : G[i]? = some (.ow z)) (k : At K B S0 (u E) (G.set i (.ow (Pen.mk z.a z.q z.l z.p n)))) : At K B S0 (tSeq (tAsg te (gSub (tVar i) (tC (.int 2)) rSetL)) u E) G := fun S σ H F kn =>
  h B S0 S σ H F kn _ fun v S1 H1 e1 k1 r1 => by
    obtain ⟨w, h1, h2, h3, h4, h5⟩ := k1.ow hi
    refine ⟨w, h1, z.a, _, 2, 2, h2, rfl, h4, rfl, k S1 σ _ F ?_⟩
    rw [show v = .int n from r1]
    exact pen_upd (v := w) k1 hi
theorem el_sliceS {xs : Scr} {tl th : TO} {lo hi : Option Int} (h : EvX K ta G xs G) (hl : EvO K tl G lo) (hh : EvO K th G hi) : EvL K (tSl (rSlL K) ta tl th) G (cutL xs.l lo hi) G := fun B S0 S σ H F k Q q =>
  h B S0 S σ H F k _ fun v S1 H1 e1 k1 r1 => hl B S0 S1 σ H1 F k1 _ fun S2 H2 e2 k2 => hh B S0 S2 σ H2 F k2 _ fun S3 H3 e3 k3 => by
    obtain ⟨p, rfl, hp⟩ := Py.mono (e2.trans e3) r1
    exact ⟨p, _, rfl, k3.sub.seq hp, fun l hl => mk_list k3 hl ((RepL.of_ints xs.l).cut lo hi) fun p vs S4 H4 e4 k4 a b c d r => q p vs S4 H4 (((e1.trans e2).trans e3).trans e4) k4 a b c d r⟩
end
/-! the making of a pen -/
def spPen (K : Fg) : Sp := fun vs H Q _ => ∃ (S : Hp) (a : Scr × Unit), Same S H ∧ PyA.rep K S vs a ∧ a.1.l.length ≤ 63 ∧ ∀ (l : List Int) (p q : Addr) (S' H' : Hp), Grow S H S' H' → l.length ≤ 63 → H p = none → S' p = none → H q = none → S' q = none → H' p = some (.lst [.ref q, .int 0, .int 0]) → H' q = some (.lst (l.map V.int)) → Q (.ref p) H'
section
variable {P : Program} {w : World} {K : Fg} {mg : Str → Option Value} {base : Heap} {B S0 : Hp} {G G1 : List Sl} {t : TA} {E : XK} {u : TS} {D : Ends} {te : TE}
theorem def_pen {x : Str} {st : Stmt} {N ps : List Str} {k : Nat} (D : Def K mg x st ps) (S : FnScope N ps (defScope st)) (hn : 1 = ps.length)
    (h : ∀ (fa : Addr) (cdv : Value) (A : Around) (outer : List Env) (s : Shared) (H : Hp) (E : XK), Room k (A.deeper (envOfC x (defScope st) s.heap.objs.size fa cdv)) →
      ∃ t, PSs (cxOf CX0 P w K mg base N x (defScope st) fa cdv A outer s H E).nox (defBody st) t ∧
        ∀ (scr : Scr), scr.l.length ≤ 63 → ∀ (B S0 : Hp) (Q : VK), (∀ (l : List Int) (G' : List Sl) S σ H F p q, l.length ≤ 63 → Kn K B S0 S σ H F G' → S p = none → B p = none → S q = none → B q = none → H p = some (.lst [.ref q, .int 0, .int 0]) → H q = some (.lst (l.map V.int)) → Q (.ref p) H) →
          At K B S0 (t { nx := fun _ H' => Q .non H', rt := Q }) (.im scr :: List.replicate (N.length - 1) .no)) :
    Cal P w K mg base (k + 1) x ps (spPen K) := by
  obtain ⟨fa, fd, m, Fu, b⟩ := D.ex
  refine ⟨fa, fd, m, Fu.ok S (fun vs H Q E ⟨S, a, _, r, _⟩ => (PyA.len r).trans hn) fun cdv A outer s H vs Q E hr ⟨S', a, e, r, hp, q⟩ => ?_, Fu.kp, b⟩
  obtain ⟨t, h1, h2⟩ := h fa cdv A outer s H E hr
  obtain ⟨scr, un⟩ := a
  refine ⟨t, h1, h2 scr hp H S' Q (fun l G' S1 σ1 H1 F1 p q' hl k1 a1 a2 a3 a4 a5 a6 => ?_) S' _ H _ (start_kn e r)⟩
  exact q l p q' S1 H1 ⟨k1.s0, k1.sub, k1.keep, k1.clean⟩ hl a2 a1 a4 a3 a5 a6
theorem q_retPen {xs : List Int} (h : EvL K te G xs G1) (k : ∀ S σ H F p q, Kn K B S0 S σ H F G1 → S p = none → B p = none → S q = none → B q = none → H p = some (.lst [.ref q, .int 0, .int 0]) → H q = some (.lst (xs.map V.int)) → D.rt (.ref p) H) :
    At K B S0 (tSeq (tRet (tLst (tCons te (tCons (tC (.int 0)) (tCons (tC (.int 0)) tNil))))) u D) G := fun S σ H F kn =>
  h B S0 S σ H F kn _ fun q vs S' H' e kn' hs hb hf hp r => ⟨by show 3 ≤ sizeLine; decide, fun p hn => by
    rw [r.ints] at hp
    have ne : q ≠ p := ne_of_none hp hn
    obtain ⟨a, b, c⟩ := kn'.free hn
    exact k S' σ _ F p q (kn'.raw hn) a b hs hb upd_same (by rw [upd_ne ne]; exact hp)⟩
theorem q_pen (i : Nat) {scr : Scr} (ha : EvA K t G (scr, ()) G1) (hp : scr.l.length ≤ 63) (hi : G1[i]?.isSome = true) (k : ∀ s : Pen, s.l.length ≤ 63 → At K B S0 (u D) (G1.set i (.ow s))) : At K B S0 (tSeq (tAsg (tCall (spPen K) [] E t) (gName i)) u D) G := fun S σ H F kn =>
  ha B S0 S σ H F kn _ fun vs S1 H1 e1 k1 r1 => by
    show spPen K (vs ++ []) H1 _ E
    rw [List.append_nil]
    refine ⟨S1, _, k1.sub, r1, hp, fun l p q S2 H2 g hl n1 n2 n3 n4 n5 n6 => ?_⟩
    obtain ⟨_, b, c⟩ := k1.free n1
    obtain ⟨_, b', c'⟩ := k1.free n3
    refine k ⟨p, q, l, 0, 0⟩ hl S2 _ H2 _ ((k1.grow g).setOwns (v := .ref p) (x := Pen.mk p q l 0 0) (ps := [p, q]) ⟨rfl, rfl, n5, n6⟩ hi fun x hx => ?_)
    rcases List.mem_cons.mp hx with e | e
    · rw [e]; exact ⟨n2, b, ⟨_, n5⟩, c⟩
    · rw [List.mem_singleton.mp e]; exact ⟨n4, b', ⟨_, n6⟩, c'⟩
end
/-! what a pen draws -/
def cellM (l : List Int) (p : Nat) : Int := if decide ((p : Int) < (l.length : Int)) = true then ix l (p : Int) else if decide (0 < (l.length : Int)) = true then ix l ((p : Int) * 5 % (l.length : Int)) % 1000003 + 89 * (p : Int) else 0
def oneM (c : Int) (p : Nat) : Int := (c % 1000000007 + 61 * (p : Int) + 1) * 16807 % 2147483647
def twoM (c : Int) (p : Nat) : Int := (oneM c p * oneM c p + 48271 * (p : Int) + 3) % 998244353
def drawM (c : Int) (p : Nat) : Int := if decide ((10 : Int) ^ (18 : Int).toNat ≤ c) = true then c / (10 : Int) ^ (18 : Int).toNat else (twoM c p * 1000000007 + (twoM c p * twoM c p + oneM c p) % 1000000007) / 32 + 1
def fillM (z : Pen) : Pen := if decide (z.w = 0) = true then ⟨z.a, z.q, z.l, z.p + 1, drawM (cellM z.l z.p) z.p⟩ else z
@[irreducible] def penTake (z : Pen) (m : Int) : Int × Pen := ((fillM z).w % m, ⟨(fillM z).a, (fillM z).q, (fillM z).l, (fillM z).p, (fillM z).w / m⟩)
theorem pen_bd (z : Pen) {m : Int} (h : 0 < m) : 0 ≤ (penTake z m).1 ∧ (penTake z m).1 < m := by
  unfold penTake
  exact ⟨Int.emod_nonneg _ (by omega), Int.emod_lt_of_pos _ h⟩
theorem pen_fp (z : Pen) (m : Int) : Anch.fp (penTake z m).2 = Anch.fp z := by
  unfold penTake fillM
  dsimp only [Anch.fp]
  split <;> rfl
theorem pen_ex {z z' : Pen} {m : Int} (e : z' = (penTake z m).2) (h : 0 < m) : ∃ d, (penTake z m).1 = d ∧ 0 ≤ d ∧ d < m ∧ Anch.fp z' = Anch.fp z := ⟨_, rfl, (pen_bd z h).1, (pen_bd z h).2, by rw [e]; exact pen_fp z m⟩
theorem pen_fact {z z' : Pen} {m : Int} (_ : z' = (penTake z m).2) (h : 0 < m) : 0 ≤ (penTake z m).1 ∧ (penTake z m).1 < m := pen_bd z h
end GL
namespace GL
open PySem PySem.Spec PyProof.Rows L2
abbrev spRP {α β : Type} [PyA α] [Py β] (K : Fg) (R : α → β → Prop) (pre : α → Prop) : Sp := spR (ω := Pen) K Pen R pre
section
variable {K : Fg} {B S0 : Hp} {G G1 : List Sl} {u : TS} {D : Ends} {α β : Type} [PyA α] [Py β] {R : α → β → Prop} {pre : α → Prop} {z z1 : Pen} {a : α} {t : TA} {E : XK} {g : TG}
theorem q_relP (j : Nat) (hj : G[j]? = some (.ow z)) (ha : EvA K t G a G1) (hj1 : G1[j]? = some (.ow z1)) (hp : pre a) (k : ∀ y (z' : Pen), R a y → Anch.fp z' = Anch.fp z1 → ∃ G2 ts, TgG K g y (G1.set j (.ow z')) G2 ts ∧ At K B S0 (u D) G2) :
    At K B S0 (tSeq (tAsg (tCall (spRP K R pre) [] E (tCons (tVar j) t)) g) u D) G := fun S σ H F kn => by
  obtain ⟨v0, h1, h2⟩ := kn.ow hj
  refine ⟨v0, h1, ha B S0 S σ H F kn _ fun vs S1 H1 e1 k1 r1 => ?_⟩
  show spRP K R pre (v0 :: vs ++ []) H1 _ E
  rw [List.append_nil]
  obtain ⟨v1, h3, h4⟩ := k1.ow hj1
  rw [h1] at h3
  cases h3
  refine ⟨S1, v0, vs, F j, z1, a, rfl, k1.sub, h4, fun p hp => ⟨(k1.off j p hp).1, (k1.off j p hp).2.2⟩, r1, hp, fun v S2 H2 y z' hR hfp s1 s2 hk hc hl ho r2 => ?_⟩
  have hH : ∀ p o, p ∉ F j → H1 p = some o → H2 p = some o := hk
  have k2 : Kn K B S0 S2 σ H2 F (G1.set j (.ow z')) := by
    refine ⟨k1.s0.trans s1, s2, fun p o e => ?_, fun p o e => (hc p o (k1.keep p o e)).trans (k1.clean p o e), fun i p hp => ?_, k1.dj, by rw [List.length_set]; exact k1.len, fun i s e => ?_⟩
    · exact hH p o (fun m => by rw [(k1.off j p m).2.1] at e; cases e) (k1.keep p o e)
    · obtain ⟨a1, a2, o, a3⟩ := k1.off i p hp
      refine ⟨(hc p o a3).trans a1, a2, ?_⟩
      by_cases m : p ∈ F j
      · exact hl p m
      · exact ⟨o, hH p o m a3⟩
    · rcases set_get e with ⟨rfl, rfl⟩ | ⟨ne, e⟩
      · exact ⟨v0, h1, ho⟩
      · have w := k1.sl i s e
        cases s with
        | no => exact True.intro
        | im y =>
          obtain ⟨u, b1, b2⟩ := w
          exact ⟨u, b1, Py.mono s1 b2⟩
        | ow y =>
          obtain ⟨u, b1, b2⟩ := w
          refine ⟨u, b1, Own.mono s1 (fun p hp => ?_) b2⟩
          obtain ⟨_, _, o, a3⟩ := k1.off i p hp
          rw [a3]
          exact hH p o (fun m => ne (k1.dj i j p hp m)) a3
  obtain ⟨G2, ts, tg, hat⟩ := k y z' hR hfp
  exact tg.2 B S0 S2 σ H2 F v k2 r2 _ fun σ' k3 _ _ => hat S2 σ' H2 F k3
end
section
variable {P : Program} {w : World} {K : Fg} {mg : Str → Option Value} {base : Heap} {α β : Type} [Sls α] [Py β]
theorem def_spRP {x : Str} {st : Stmt} {N ps : List Str} {k : Nat} {R : α → β → Prop} {pre : α → Prop} (D : Def K mg x st ps) (S : FnScope N ps (defScope st)) (hn : PyA.n α + 1 = ps.length)
    (h : ∀ (fa : Addr) (cdv : Value) (A : Around) (outer : List Env) (s : Shared) (H : Hp) (E : XK), Room k (A.deeper (envOfC x (defScope st) s.heap.objs.size fa cdv)) →
      ∃ t, PSs (cxOf CX0 P w K mg base N x (defScope st) fa cdv A outer s H E).nox (defBody st) t ∧
        ∀ (z : Pen) (a : α), pre a → ∀ (B S0 : Hp) (Q : VK), (∀ (G' : List Sl) (y : β) (z' : Pen), G'[0]? = some (.ow z') → Anch.fp z' = Anch.fp z → R a y → RT K B S0 Q y G') → At K B S0 (t { nx := fun _ H' => Q .non H', rt := Q }) (.ow z :: Sls.sls a ++ List.replicate (N.length - (PyA.n α + 1)) .no)) :
    Cal P w K mg base (k + 1) x ps (spRP K R pre) := by
  obtain ⟨fa, fd, m, Fu, b⟩ := D.ex
  refine ⟨fa, fd, m, Fu.ok S (fun vs H Q E ⟨S, v0, ws, qs, z, a, e, _, _, _, r, _⟩ => by rw [e, List.length_cons, PyA.len r]; exact hn) fun cdv A outer s H vs Q E hr ⟨S', v0, ws, qs, z, a, e, es, ho, hqs, r, hp, q⟩ => ?_, Fu.kp, b⟩
  subst e
  obtain ⟨t, h1, h2⟩ := h fa cdv A outer s H E hr
  refine ⟨t, h1, ?_⟩
  have kn := start_knM (N := N) es ho hqs r
  refine h2 z a hp _ S' Q (fun G' y z' hz hfp hR S1 σ1 H1 F1 v k1 r1 => ?_) S' _ H _ kn
  obtain ⟨v1, _, o1⟩ := k1.ow hz
  have ef : (v1, F1 0) = (v0, qs) := (Anch.at_ o1).trans (by rw [hfp]; exact (Anch.at_ ho).symm)
  have ev : v1 = v0 := congrArg Prod.fst ef
  have eF : F1 0 = qs := congrArg Prod.snd ef
  rw [ev, eF] at o1
  refine q v S1 H1 y z' hR hfp k1.s0 k1.sub (fun p o m e => k1.keep p o (by rw [if_neg m]; exact e)) (fun p o e => ?_) (fun p m => ?_) o1 r1
  · by_cases m : p ∈ qs
    · rw [(k1.off 0 p (by rw [eF]; exact m)).1, (hqs p m).1]
    · exact k1.clean p o (by rw [if_neg m]; exact e)
  · exact (k1.off 0 p (by rw [eF]; exact m)).2.2
end
end GL
namespace GL
theorem pen_cut {xs : List Int} {n : Nat} (h : xs.length ≤ n) (lo hi : Option Int) : (cutL xs lo hi).length ≤ n := by
  unfold cutL
  rw [List.length_take, List.length_drop]
  omega
theorem emod_bd (x : Int) {m : Int} (h : 0 < m) : 0 ≤ x % m ∧ x % m < m := ⟨Int.emod_nonneg _ (by omega), Int.emod_lt_of_pos _ h⟩
end GL

/-! A caught exception is tracked like any other settled thing: a try whose clause's suite may keep it. -/
namespace GL
open PySem PySem.Spec PyProof.Rows L2
/-- an exception's object, by its class -/
def excW (cls : Value) (d : Option Addr) (a : Addr) (h : Heap) : Prop := ∃ ob fs, h.get? a = some ob ∧ Zc cls d ob ∧ ob.data = .fields fs
abbrev excH (cls : Value) (d : Option Addr) (a : Addr) : HO := .ext (excW cls d a)
section
variable {X : Cx} {pins : List (Addr × Obj)} {σ : L2.St} {H : Hp}
theorem exc_ok {P : Program} {w : World} {H : Hp} {cls : Value} {d : Option Addr} {a : Addr} {h : Heap} (x : excW cls d a h) : ObjOk P w H h a (excH cls d a) := by
  refine ⟨x, ?_, fun h1 h2 ⟨ob, fs, e1, e2, e3⟩ k => ⟨ob, fs, k _ e1, e2, e3⟩⟩
  obtain ⟨ob, _, e, _⟩ := x
  exact ⟨ob, e⟩
/-- the state behind a landing, with the exception tracked -/
theorem inv_exc {B : Heap} {sI s' : Shared} {cls : Value} {d : Option Addr} {a : Addr} (I : Inv X pins σ H sI) (ground : ∀ b o, sI.heap.get? b = some o → b ∉ frs X.stack → B.get? b = some o) (stays : B.StaysIn s'.heap) (slots : sI.heap.UpToSlots s'.heap)
    (eo : s'.os = sI.os) (eg : AllBare s'.gens) (nB : B.get? a = none) (nS : a ∉ frs X.stack) (x : excW cls d a s'.heap) (na : H a = none) : Inv X pins σ (upd H a (excH cls d a)) s' := by
  have noI : sI.heap.get? a = none := by
    cases e : sI.heap.get? a with
    | none => rfl
    | some o => rw [ground a o e nS] at nB; cases nB
  obtain ⟨G, g1, g2⟩ := restrict s'.heap fun b => !decide (b = a)
  have gIn : ∀ b, b ≠ a → G.get? b = s'.heap.get? b := fun b ne => g1 b (by rw [decide_eq_false ne]; rfl)
  have gNo : G.get? a = none := g2 a (by rw [decide_eq_true rfl]; rfl)
  have J : Inv X pins σ H { s' with heap := G } := by
    refine Inv.landed I ground (fun b o e => ?_) (fun b o e nf => ?_) eo eg
    · have ne : b ≠ a := fun z => by rw [z, nB] at e; cases e
      exact (gIn b ne).trans (stays b o e)
    · have ne : b ≠ a := fun z => by rw [z, noI] at e; cases e
      obtain ⟨sl, q⟩ := slots b o e nf
      exact ⟨sl, (gIn b ne).trans q⟩
  have sub : ∀ b u, G.get? b = some u → s'.heap.get? b = some u := fun b u e => by
    have ne : b ≠ a := fun z => by rw [z, gNo] at e; cases e
    rw [gIn b ne] at e
    exact e
  exact J.laidN (t' := s'.toks) sub gNo na (exc_ok x)
/-- an except suite's state, nothing pinned anew -/
theorem inv_suite {s : Shared} {a : Addr} (I : Inv X pins σ H s) : Inv (X.suite a (X.pn ++ pins)) [] σ H s :=
  ⟨I.ok.suite a _, I.os, I.bare, I.base, I.loc, I.cell, I.free, I.freeC, fun p hp => I.pin p (by simpa using hp), I.hok, I.len⟩
theorem inv_unsuite {s : Shared} {a : Addr} {more : List (Addr × Obj)} (I : Inv (X.suite a (X.pn ++ pins)) more σ H s) (ok : X.Ok) : Inv X pins σ H s :=
  ⟨ok, I.os, I.bare, I.base, I.loc, I.cell, I.free, I.freeC, fun p hp => I.pin p (List.mem_append_left more hp), I.hok, I.len⟩
end
/-- the suite's ends: the clause's name goes -/
def noSlot (i : Nat) (D : Ends) : Ends := { nx := fun σ H => D.nx (σ.set i none) H, rt := D.rt, bk := fun σ H => D.bk (σ.set i none) H, ct := fun σ H => D.ct (σ.set i none) H }
/-- what a clause 'except c as n' wishes of an exception of the body: it is met, the exception kept -/
def wKeep (K : Fg) (c : Value) (i : Nat) (ts : TS) (D : Ends) : WX := fun cls d σ H =>
  PySem.W.exmOne K cls c = some true ∧ ∀ a, H a = none → ts (noSlot i D) (σ.set i (some (.ref a))) (upd H a (excH cls d a))
/-- .. 'except c' without a name -/
def wKeep0 (K : Fg) (c : Value) (ts : TS) (D : Ends) : WX := fun cls d σ H => PySem.W.exmOne K cls c = some true ∧ ∀ a, H a = none → ts D σ (upd H a (excH cls d a))
theorem frame_off {B h : Heap} {l : List Env} {a : Addr} {ob : Obj} {fs : Array Value} (ff : h.FunFrames B l) (e : h.get? a = some ob) (ed : ob.data = .fields fs) : a ∉ frs l := fun hm => by
  obtain ⟨_, ob2, e2, nf⟩ := ff.mem hm
  rw [e, Option.some.injEq] at e2
  exact nf fs (e2 ▸ ed)
section
variable {X : Cx} {x n : Str} {c : Value} {i : Nat} {body suite : List Stmt} {st0 : Stmt} {p1 p2 p3 : Pos} {tb : WX → TS} {ts : TS} {pins : List (Addr × Obj)} {D : Ends} {s' : Shared}
/-- an exception out of the body, landed: the state, and how it looks -/
structure Landed (X : Cx) (pins : List (Addr × Obj)) (B : Heap) (σ : L2.St) (H : Hp) (cls : Value) (d : Option Addr) (a : Addr) (s : Shared) : Prop where
  fly : HandSPX.FlyingZ B (X.env :: X.outer) a (Zc cls d) s.heap
  inv : Inv X pins σ (upd H a (excH cls d a)) s
theorem landed_at {B : Heap} {sI s : Shared} {σ : L2.St} {H : Hp} {cls : Value} {d : Option Addr} {a : Addr} (es : X.stack = X.env :: X.outer) (J : Inv X pins σ H sI) (nb : ∀ b o, sI.heap.get? b = some o → b ∉ frs X.stack → B.get? b = some o)
    (up : sI.heap.UpToSlots s.heap) (eo : s.os = sI.os) (eg : AllBare s.gens) (na : H a = none) (fly : HandSPX.FlyingZ B (X.env :: X.outer) a (Zc cls d) s.heap) : Landed X pins B σ H cls d a s := by
  obtain ⟨ob, fs, e, ez, ed⟩ := fly.there
  refine ⟨fly, inv_exc J nb fly.1 up eo eg fly.2.1 ?_ ⟨ob, fs, e, ez, ed⟩ na⟩
  rw [es]
  exact frame_off fly.2.2.1 e ed
/-- the class that the clause names matches -/
theorem Landed.test {B : Heap} {s : Shared} {σ : L2.St} {H : Hp} {cls : Value} {d : Option Addr} {a : Addr} {Q : Bool → Shared → Prop} {E : Value → Shared → Prop} (l : Landed X pins B σ H cls d a s) (hc : Names X x c) (hm : PySem.W.exmOne X.K cls c = some true) (q : Q true s) :
    wpAny (model X.prog X.w) (X.A.mark (some (.ref a))) (eval (.Name x p1) X.env) (fun v s1 => wpAny (model X.prog X.w) (X.A.mark (some (.ref a))) (excMatches (.ref a) v) Q E s1) E s := by
  obtain ⟨ob, fs, e, ez, ed⟩ := l.fly.there
  have lt : PySem.W.Looks (model X.prog X.w) s.heap (typeOf (.ref a)) cls := fun A Q E s2 k q2 => wpAny_typeOf_ref (k _ _ e) (ez.1 ▸ q2)
  have lm := PySem.W.exm_one (M := model X.prog X.w) l.inv.kIn lt hm
  have in_ := inv_suite (a := a) l.inv
  obtain ⟨gl, db, kn | ⟨kn, kb, knm⟩⟩ := hc
  · exact ld_glob in_ gl kn (lm.here q) db
  · exact ld_blt in_ gl kn kb (lm.here q) knm db
theorem ps_try_keep (es : X.stack = X.env :: X.outer) (ef : X.env.frame = some X.env.locals) (hN : X.N.Nodup) (hi : X.N[i]? = some n) (hl : X.env.kindOf n = some .local) (hc : Names X x c)
    (hb : ∀ (W : WX) (pn : List (Addr × Obj)) (xe : Value → Shared → Prop), Takes (X.tr pn xe) W → PassesOwn (model X.prog X.w) X.A X.env xe → PSs (X.tr pn xe) body (tb W))
    (hs : ∀ (a : Addr) (pn : List (Addr × Obj)), PSs (X.suite a pn) (st0 :: suite) ts) :
    PS X (.Try body [.ExceptHandler (some (.Name x p1)) (some n) (st0 :: suite) p2] [] [] p3) (fun D σ H => tb (wKeep X.K c i ts D) D σ H) := ⟨fun pins s σ H D I h => by
  have ok := I.ok
  have fr : X.A.frames = some (X.env :: X.outer) := ok.frames.trans (congrArg some es)
  have bodyRun := fun xe tk po => (hb (wKeep X.K c i ts D) (X.pn ++ pins) xe tk po).run [] s σ H D (I.toTry xe) h
  refine wpAny_Try_except (wpAny_mono (bodyRun _ (fun u s' xx => ?_) PassesOwn.looking) (fun f s1 hf => ?_) fun _ _ z => z)
  · obtain ⟨a, B, sI, pins', σ', H', cls, d, eu, J', nb, up, sky, na, eo, eg, hm, hyes⟩ := xx
    subst eu
    have J := J'.ofTry ok
    rw [show (X.tr (X.pn ++ pins) _).stack = X.env :: X.outer from es] at sky
    refine Sky.land Zc.steady fr ef sky fun h3 fl3 up3 => ?_
    have l3 := landed_at (s := { s' with heap := h3 }) es J nb (up.trans up3) eo eg na fl3
    refine wpAny_handleBy_cons (codeAny_handlers_test (l3.test hc hm ?_)) fun z => nomatch z
    refine codeAny_handlers_suite_as (HandSPX.lands_againZ fl3 fun h4 fl4 up4 => ?_)
    have l4 := landed_at (s := { s' with heap := h4 }) es J nb ((up.trans up3).trans up4) eo eg na fl4
    refine store_ok (X := X.suite a (X.pn ++ pins)) (v := .ref a) (inv_suite l4.inv) hN hi (.inl hl) rfl (fun s5 I5 => wpAny_mono ((hs a (X.pn ++ pins)).run [] s5 _ _ _ I5 (hyes a na)) (fun f s6 hsp => ?_) fun _ _ z => z.elim) (.inr hl)
    have go : ∀ {σ6 : L2.St} {H6 : Hp} {Q : Shared → Prop}, Inv (X.suite a (X.pn ++ pins)) [] σ6 H6 s6 → (∀ s7, Inv X pins (σ6.set i none) H6 s7 → Q s7) → wpAny (model X.prog X.w) X.A (do bindName X.env n .none; unbindBehindTheSuite X.env n p2) (fun _ s7 => Q s7) X.xe s6 := fun I6 q => gone_ok (inv_unsuite I6 ok) hN hi hl q
    cases f with
    | ret u =>
      obtain ⟨v6, σ6, H6, I6, r6, q6⟩ := hsp
      exact go I6 fun s7 I7 => ⟨v6, _, H6, I7, r6, q6⟩
    | next => obtain ⟨σ6, H6, I6, q6⟩ := hsp; exact go I6 fun s7 I7 => ⟨_, H6, I7, q6⟩
    | brk => obtain ⟨σ6, H6, I6, q6⟩ := hsp; exact go I6 fun s7 I7 => ⟨_, H6, I7, q6⟩
    | cont => obtain ⟨σ6, H6, I6, q6⟩ := hsp; exact go I6 fun s7 I7 => ⟨_, H6, I7, q6⟩
  · cases f with
    | ret u => obtain ⟨v1, σ1, H1, I1, r1, q1⟩ := hf; exact ⟨v1, σ1, H1, I1.ofTry ok, r1, q1⟩
    | next => obtain ⟨σ1, H1, I1, q1⟩ := hf; exact wpAny_execs_nil ⟨σ1, H1, I1.ofTry ok, q1⟩
    | brk => obtain ⟨σ1, H1, I1, q1⟩ := hf; exact ⟨σ1, H1, I1.ofTry ok, q1⟩
    | cont => obtain ⟨σ1, H1, I1, q1⟩ := hf; exact ⟨σ1, H1, I1.ofTry ok, q1⟩⟩
theorem ps_try_keep0 (es : X.stack = X.env :: X.outer) (ef : X.env.frame = some X.env.locals) (hc : Names X x c)
    (hb : ∀ (W : WX) (pn : List (Addr × Obj)) (xe : Value → Shared → Prop), Takes (X.tr pn xe) W → PassesOwn (model X.prog X.w) X.A X.env xe → PSs (X.tr pn xe) body (tb W))
    (hs : ∀ (a : Addr) (pn : List (Addr × Obj)), PSs (X.suite a pn) (st0 :: suite) ts) :
    PS X (.Try body [.ExceptHandler (some (.Name x p1)) none (st0 :: suite) p2] [] [] p3) (fun D σ H => tb (wKeep0 X.K c ts D) D σ H) := ⟨fun pins s σ H D I h => by
  have ok := I.ok
  have fr : X.A.frames = some (X.env :: X.outer) := ok.frames.trans (congrArg some es)
  have bodyRun := fun xe tk po => (hb (wKeep0 X.K c ts D) (X.pn ++ pins) xe tk po).run [] s σ H D (I.toTry xe) h
  refine wpAny_Try_except (wpAny_mono (bodyRun _ (fun u s' xx => ?_) PassesOwn.looking) (fun f s1 hf => ?_) fun _ _ z => z)
  · obtain ⟨a, B, sI, pins', σ', H', cls, d, eu, J', nb, up, sky, na, eo, eg, hm, hyes⟩ := xx
    subst eu
    have J := J'.ofTry ok
    rw [show (X.tr (X.pn ++ pins) _).stack = X.env :: X.outer from es] at sky
    refine Sky.land Zc.steady fr ef sky fun h3 fl3 up3 => ?_
    have l3 := landed_at (s := { s' with heap := h3 }) es J nb (up.trans up3) eo eg na fl3
    refine wpAny_handleBy_cons (codeAny_handlers_test (l3.test hc hm ?_)) fun z => nomatch z
    refine codeAny_handlers_suite (HandSPX.lands_againZ fl3 fun h4 fl4 up4 => ?_)
    have l4 := landed_at (s := { s' with heap := h4 }) es J nb ((up.trans up3).trans up4) eo eg na fl4
    refine wpAny_mono ((hs a (X.pn ++ pins)).run [] _ _ _ _ (inv_suite (a := a) l4.inv) (hyes a na)) (fun f s6 hsp => ?_) fun _ _ z => z.elim
    cases f with
    | ret u => obtain ⟨v6, σ6, H6, I6, r6, q6⟩ := hsp; exact ⟨v6, σ6, H6, inv_unsuite I6 ok, r6, q6⟩
    | next => obtain ⟨σ6, H6, I6, q6⟩ := hsp; exact ⟨_, H6, inv_unsuite I6 ok, q6⟩
    | brk => obtain ⟨σ6, H6, I6, q6⟩ := hsp; exact ⟨_, H6, inv_unsuite I6 ok, q6⟩
    | cont => obtain ⟨σ6, H6, I6, q6⟩ := hsp; exact ⟨_, H6, inv_unsuite I6 ok, q6⟩
  · cases f with
    | ret u => obtain ⟨v1, σ1, H1, I1, r1, q1⟩ := hf; exact ⟨v1, σ1, H1, I1.ofTry ok, r1, q1⟩
    | next => obtain ⟨σ1, H1, I1, q1⟩ := hf; exact wpAny_execs_nil ⟨σ1, H1, I1.ofTry ok, q1⟩
    | brk => obtain ⟨σ1, H1, I1, q1⟩ := hf; exact ⟨σ1, H1, I1.ofTry ok, q1⟩
    | cont => obtain ⟨σ1, H1, I1, q1⟩ := hf; exact ⟨σ1, H1, I1.ofTry ok, q1⟩⟩
end
end GL

set_option maxHeartbeats 4000000
namespace L2
open PySem PySem.Spec PyProof.Rows GL
/-- a >= b of two pairs of whole numbers -/
def rGe2 (K : PySem.W.Frag) : R2 := fun x y H Q => ∃ m n m' n' : Int, TupI K H x [m, n] ∧ TupI K H y [m', n'] ∧ Q (.bl (le2b (m', n') (m, n))) H
theorem pair_items {X : Cx} {pins : List (Addr × Obj)} {s : Shared} {σ : L2.St} {H : Hp} {a : Addr} {m n : Int} (I : Inv X pins σ H s) (h : SqT X.K H a ([m, n].map V.int)) : ∃ t u : Tok, s.heap.IsTuple a #[.int m t, .int n u] := by
  obtain ⟨its, r, p, _⟩ := I.tuple h
  have i : IntsAre its [m, n] := Vals.ints r
  cases i with
  | cons _ t1 r =>
    cases r with
    | cons _ t2 r =>
      cases r
      exact ⟨t1, t2, p⟩
theorem eqAt_int {A : Around} {s : Shared} (x y : Int) (t u : Tok) : SeqAt.EqAt A s (.int x t) (.int y u) (decide (x = y)) := by
  have z : (x == y) = decide (x = y) := by
    by_cases q : x = y
    · rw [decide_eq_true q]; exact beq_iff_eq.mpr q
    · rw [decide_eq_false q]; exact beq_eq_false_iff_ne.mpr q
  rw [← z]
  exact SeqAt.EqAt.int_int _ _ _ _
theorem op_ge2 {X : Cx} (hu0 : X.A.units + 64 < cLine) : OpR X (compareOp .GtE) (rGe2 X.K) := by
  have hu : X.A.units < cLine := by omega
  intro pins s σ H x y v u Q I rx ry h
  obtain ⟨m, n, m', n', ⟨a, rfl, ha⟩, ⟨b, rfl, hb⟩, q⟩ := h
  cases rx
  cases ry
  obtain ⟨t1, t2, p1⟩ := pair_items I ha
  obtain ⟨u1, u2, p2⟩ := pair_items I hb
  have R := Ob.RcOp.tuples_ge (A := X.A) (s := s) (e := fun j => if j = 0 then decide (m = m') else decide (n = n')) (r := fun j => if j = 0 then decide (m' ≤ m) else decide (n' ≤ n)) p1 p2 hu (fun j h1 h2 => by
    match j, h1, h2 with
    | 0, _, _ => exact eqAt_int m m' t1 u1
    | 1, _, _ => exact eqAt_int n n' t2 u2
    | j + 2, h1, _ => exact absurd h1 (by simp)) (fun j h1 h2 _ => by
    match j, h1, h2 with
    | 0, _, _ => exact Ob.RcOp.ge_int m m' t1 u1
    | 1, _, _ => exact Ob.RcOp.ge_int n n' t2 u2
    | j + 2, h1, _ => exact absurd h1 (by simp))
  have e : Ob.lexAt (fun j => if j = 0 then decide (m = m') else decide (n = n')) (fun j => if j = 0 then decide (m' ≤ m) else decide (n' ≤ n)) (decide ((#[Value.int m t1, Value.int n t2] : Array Value).size ≥ (#[Value.int m' u1, Value.int n' u2] : Array Value).size)) 0 (min (#[Value.int m t1, Value.int n t2] : Array Value).size (#[Value.int m' u1, Value.int n' u2] : Array Value).size) = le2b (m', n') (m, n) := by
    show Ob.lexAt _ _ _ 0 2 = _
    rw [Ob.lexAt_succ, Ob.lexAt_succ, Ob.lexAt_zero]
    unfold le2b
    simp only [if_true, show ((0 + 1 : Nat) = 0) = False by simp, if_false, decide_eq_true_eq]
    by_cases c1 : m = m'
    · rw [if_pos c1]
      by_cases c2 : n = n'
      · rw [if_pos c2]; simp [c1, c2]
      · rw [if_neg c2]; simp [c1]
    · rw [if_neg c1]
      by_cases c2 : m' ≤ m
      · rw [decide_eq_true c2, decide_eq_true (show m' < m by omega)]; rfl
      · rw [decide_eq_false c2, decide_eq_false (show ¬ m' < m by omega), decide_eq_false (show ¬ m' = m by omega)]; rfl
  rw [e] at R
  have z : wpAny (model X.prog X.w) X.A (compareOp .GtE (.ref a) (.ref b)) (EP X pins σ Q) X.xe s := R X.prog X.w X.xe (EP X pins σ Q) ⟨.bl _, H, I, rfl, q⟩
  exact z
end L2
namespace GL
open PySem PySem.Spec PyProof.Rows L2
section
variable {K : Fg} {G G1 G2 : List Sl} {ta tb : TE}
theorem ev_ge2 {p q : Int × Int} (ha : EvX K ta G p G1) (hb : EvX K tb G1 q G2) : EvX K (tOp (rGe2 K) ta tb) G (le2b q p) G2 := fun B S0 S σ H F k Q c =>
  ha B S0 S σ H F k _ fun v S1 H1 e1 k1 r1 => hb B S0 S1 σ H1 F k1 _ fun u S2 H2 e2 k2 r2 => by
    have r1' := Py.mono e2 r1
    exact ⟨p.1, p.2, q.1, q.2, rep2 k2.sub r1', rep2 k2.sub r2, c _ S2 H2 (e1.trans e2) k2 rfl⟩
/-- xs[-1] -/
def lastI {α : Type} [Inhabited α] (xs : List α) : α := ix xs ((xs.length : Int) - 1)
theorem ev_last {α : Type} [Py α] [Inhabited α] {xs : List α} (ha : EvX K ta G xs G1) (hb : EvX K tb G1 (-1) G2) (h : 0 < xs.length) : EvX K (tOp (rIxL K) ta tb) G (lastI xs) G2 := fun B S0 S σ H F k Q q =>
  ha B S0 S σ H F k _ fun v S1 H1 e1 k1 r1 => hb B S0 S1 σ H1 F k1 _ fun u S2 H2 e2 k2 r2 => by
    obtain ⟨p, vs, rfl, hp, hr⟩ := Py.mono e2 r1
    obtain ⟨w, h1, h2⟩ := hr.get (ix_at (xs := xs) (i := (xs.length : Int) - 1) (by omega) (by omega))
    have hl := hr.len
    have e : atI vs (-1) = some w := by
      obtain ⟨init, last, rfl⟩ : ∃ init last, vs = init ++ [last] := by
        rcases List.eq_nil_or_concat vs with q | ⟨i, l, q⟩
        · rw [q] at hl; simp at hl; omega
        · exact ⟨i, l, by rw [q]; simp⟩
      rw [List.length_append, List.length_singleton] at hl
      rw [show ((xs.length : Int) - 1).toNat = init.length by omega, List.getElem?_append_right (Nat.le_refl _), Nat.sub_self] at h1
      have e1 : last = w := Option.some.inj h1
      rw [← e1]
      exact atI_last init last
    exact ⟨p, vs, -1, w, rfl, r2, SqL.of (k2.sub _ _ hp), e, q w S2 H2 (e1.trans e2) k2 h2⟩
end
end GL

set_option maxHeartbeats 4000000
namespace GL
open PySem PySem.Spec PyProof.Rows L2
section
variable {K : Fg} {B S0 : Hp} {G G1 G2 : List Sl} {ta tb tc te : TE} {i j : Nat} {u : TS} {E : Ends}
/-- while, by a word that its turns keep -/
theorem qg_whI {τ : Type} {tt : TT} {tb : TS} (γ : τ → List Sl) (c : τ → Bool) (s0 : τ) (I : τ → Prop) (μ : τ → Nat) (h0 : Le (γ s0) G) (hI : I s0) (hc : ∀ s, I s → EvT K tt (γ s) (c s) (γ s))
    (hs : ∀ s, I s → c s = true → ∀ S1, Reb B S0 S1 → At K B S1 (tb { E with nx := Mid K B S1 (fun G' => ∃ s', G' = γ s' ∧ I s' ∧ μ s' < μ s), ct := Mid K B S1 (fun G' => ∃ s', G' = γ s' ∧ I s' ∧ μ s' < μ s), bk := u E }) (γ s))
    (hd : ∀ s, I s → c s = false → ∀ S1, Reb B S0 S1 → At K B S1 (u E) (γ s)) : At K B S0 (tSeq (tWhile tt tb) u E) G := by
  refine at_le h0 (q_while (fun m Gi => ∃ s, Gi = γ s ∧ I s ∧ μ s = m) (μ s0) ⟨s0, rfl, hI, rfl⟩ fun m Gi ⟨s, e, p, q⟩ S1 rb => ?_)
  subst e
  refine ⟨c s, hc s p, fun hb => ?_, fun hb => hd s p hb S1 rb⟩
  have h := hs s p hb S1 rb
  have e : (fun G' => ∃ m', m' < m ∧ ∃ s', G' = γ s' ∧ I s' ∧ μ s' = m') = (fun G' => ∃ s', G' = γ s' ∧ I s' ∧ μ s' < μ s) := by
    funext G'
    apply propext
    constructor
    · rintro ⟨m', h1, s', h2, h3, h4⟩
      exact ⟨s', h2, h3, by omega⟩
    · rintro ⟨s', h2, h3, h4⟩
      exact ⟨μ s', by omega, s', h2, h3, rfl⟩
  rw [e]
  exact h
end
end GL

set_option maxHeartbeats 4000000
namespace GL
open PySem PySem.Spec PyProof.Rows L2
section
variable {K : Fg} {G : List Sl} {i j : Nat}
/-- those that a test picks, which turns a state -/
def pickX {τ α β : Type} (f : τ → α → Bool) (e : α → β) (step : τ → α → τ) (xs : List α) (s0 : τ) : List β × τ := xs.foldl (fun (a : List β × τ) x => (if f a.2 x = true then a.1 ++ [e x] else a.1, step a.2 x)) ([], s0)
theorem pickX_gen {τ α β : Type} (f : τ → α → Bool) (e : α → β) (step : τ → α → τ) : ∀ (xs : List α) (a : List β) (s : τ), ∃ ys : List α, List.Sublist ys xs ∧ (xs.foldl (fun (a : List β × τ) x => (if f a.2 x = true then a.1 ++ [e x] else a.1, step a.2 x)) (a, s)) = (a ++ ys.map e, xs.foldl step s)
  | [], a, s => ⟨[], List.Sublist.slnil, by simp⟩
  | x :: xs, a, s => by
    obtain ⟨ys, h1, h2⟩ := pickX_gen f e step xs (if f s x = true then a ++ [e x] else a) (step s x)
    rw [List.foldl_cons, List.foldl_cons]
    dsimp only
    rw [h2]
    by_cases h : f s x = true
    · exact ⟨x :: ys, h1.cons₂ x, by rw [if_pos h, List.map_cons, List.append_assoc]; rfl⟩
    · exact ⟨ys, h1.cons x, by rw [if_neg h]⟩
theorem pickX_sub {τ α β : Type} (f : τ → α → Bool) (e : α → β) (step : τ → α → τ) (xs : List α) (s : τ) : ∃ ys : List α, List.Sublist ys xs ∧ pickX f e step xs s = (ys.map e, xs.foldl step s) := by
  obtain ⟨ys, h1, h2⟩ := pickX_gen f e step xs [] s
  exact ⟨ys, h1, by unfold pickX; rw [h2, List.nil_append]⟩
theorem el_lcT {α β τ : Type} [Py α] [Py β] {wi : TI} {g : TG} {te : TE} {tt : TT} {vs : List Nat} {xs : List α} (γ : τ → List Sl) (s0 : τ) (step : τ → α → τ) (f : τ → α → Bool) (e : α → β) (hi : ItG K wi G xs (γ s0)) (hl : xs.length ≤ 1000000)
    (hs : ∀ x s, x ∈ xs → ∃ G2 ts, TgG K g x (wipeG (γ s) vs) G2 ts ∧ (∀ t ∈ ts, t ∈ vs) ∧ ∃ G4, EvT K tt G2 (f s x) G4 ∧ (f s x = true → EvX K te G4 (e x) G4) ∧ Bk vs 0 (γ (step s x)) G4 (γ s)) :
    EvL K (tLc wi g tt te vs) G (pickX f e step xs s0).1 (γ (xs.foldl step s0)) :=
  el_lcX (K := K) (wi := wi) (g := g) (tt := tt) (te := te) (vs := vs) (G := G) γ s0 step f (fun _ x => e x) hi hl fun pre x post ex s hs' => by
    obtain ⟨G2, ts, tg, hts, G4, ht, he, bk⟩ := hs x s (by rw [← ex]; exact List.mem_append_right _ List.mem_cons_self)
    refine ⟨G2, ts, tg, hts, G4, G4, ht, he, fun _ => rfl, fun j sl hj => ?_, bk.len⟩
    have := bk.get j sl hj
    rw [Nat.zero_add] at this
    exact this
end
section
variable {K : Fg} {B S0 : Hp} {G G1 G2 G3 : List Sl} {ta tb tc : TE} {u : TS} {E : Ends}
/-- return of three, the first a new list -/
theorem q_ret3L {δ β γ : Type} [Py δ] [Py β] [PyF β] [PyT β] [Py γ] [PyF γ] [PyT γ] {xs : List δ} {y : β} {z : γ} (h : EvL K ta G xs G1) (hb : EvX K tb G1 y G2) (hc : EvX K tc G2 z G3) (k : RT K B S0 E.rt (Fx.mk B (T3.mk xs y z)) G3) : At K B S0 (tSeq (tRet (tTup (tCons ta (tCons tb (tCons tc tNil))))) u E) G := fun S σ H F kn =>
  h B S0 S σ H F kn _ fun p vs S' H' e kn' hs hb' hf hp r => by
    have k2 := kn'.settle hp hs hb' hf
    refine hb B S0 _ σ H' F k2 _ fun v S2 H2 e2 k3 r2 => hc B S0 S2 σ H2 F k3 _ fun w S3 H3 e3 k4 r3 => ⟨by show 3 ≤ sizeLine; decide, fun l hl => ?_⟩
    have e4 := same_new (o := .tup [.ref p, v, w]) (k4.free hl).1
    have r1 : PyF.repF K B (upd S' p (.lst vs)) (.ref p) xs := ⟨⟨p, vs, rfl, upd_same, r.mono (same_new hs)⟩, p, rfl, hb'⟩
    exact k _ σ _ F (.ref l) (k4.new hl) ⟨l, .ref p, v, w, rfl, SqT.of upd_same, PyF.mono ((e2.trans e3).trans e4) r1, PyF.mono (e3.trans e4) (PyT.of r2), PyF.mono e4 (PyT.of r3)⟩
end
end GL

/-! Data of any shape; lists of two unlike things; pop at a place. -/
namespace GL
open PySem PySem.Spec PyProof.Rows L2
inductive Dat
  | non
  | int (i : Int)
  | bl (b : Bool)
  | str (s : Str)
  | tup (l : List Dat)
  | lst (l : List Dat)
mutual
inductive DRep (K : Fg) (S : Hp) : V → Dat → Prop
  | non : DRep K S .non .non
  | int (i : Int) : DRep K S (.int i) (.int i)
  | bl (b : Bool) : DRep K S (.bl b) (.bl b)
  | str (s : Str) : DRep K S (.str s) (.str s)
  | tup {p : Addr} {vs : List V} {l : List Dat} : SqT K S p vs → DRepL K S vs l → DRep K S (.ref p) (.tup l)
  | lst {p : Addr} {vs : List V} {l : List Dat} : S p = some (.lst vs) → DRepL K S vs l → DRep K S (.ref p) (.lst l)
inductive DRepL (K : Fg) (S : Hp) : List V → List Dat → Prop
  | nil : DRepL K S [] []
  | cons {v : V} {d : Dat} {vs : List V} {l : List Dat} : DRep K S v d → DRepL K S vs l → DRepL K S (v :: vs) (d :: l)
end
mutual
theorem DRep.mono {K : Fg} {S S' : Hp} (e : Same S S') : ∀ {v : V} {d : Dat}, DRep K S v d → DRep K S' v d
  | _, _, .non => .non
  | _, _, .int i => .int i
  | _, _, .bl i => .bl i
  | _, _, .str i => .str i
  | _, _, .tup h r => .tup (seqT e h) (DRepL.mono e r)
  | _, _, .lst h r => .lst (e _ _ h) (DRepL.mono e r)
theorem DRepL.mono {K : Fg} {S S' : Hp} (e : Same S S') : ∀ {vs : List V} {l : List Dat}, DRepL K S vs l → DRepL K S' vs l
  | _, _, .nil => .nil
  | _, _, .cons h r => .cons (DRep.mono e h) (DRepL.mono e r)
end
instance : Py Dat := ⟨fun K S v d => DRep K S v d, fun e h => h.mono e⟩
theorem DRepL.rep {K : Fg} {S : Hp} : ∀ {vs : List V} {l : List Dat}, DRepL K S vs l → RepL K S vs l
  | _, _, .nil => True.intro
  | _, _, .cons h r => ⟨h, DRepL.rep r⟩
theorem RepL.drep {K : Fg} {S : Hp} : ∀ {vs : List V} {l : List Dat}, RepL K S vs l → DRepL K S vs l
  | [], [], _ => .nil
  | _ :: _, _ :: _, h => .cons h.1 (RepL.drep h.2)
  | [], _ :: _, h => h.elim
  | _ :: _, [], h => h.elim
/-- at most so deep, lists not too long -/
inductive DLe : Nat → Dat → Prop
  | non {k : Nat} : DLe k .non
  | int {k : Nat} {i : Int} : DLe k (.int i)
  | bl {k : Nat} {i : Bool} : DLe k (.bl i)
  | str {k : Nat} {i : Str} : DLe k (.str i)
  | tup {k : Nat} {l : List Dat} : l.length ≤ 1000000 → (∀ x ∈ l, DLe k x) → DLe (k + 1) (.tup l)
  | lst {k : Nat} {l : List Dat} : l.length ≤ 1000000 → (∀ x ∈ l, DLe k x) → DLe (k + 1) (.lst l)
/-- kinds that are data -/
class ToD (α : Type) [Py α] where
  dat : α → Dat
  of : ∀ {K : Fg} {S : Hp} {v : V} {x : α}, Py.rep K S v x → DRep K S v (dat x)
instance : ToD Int := ⟨.int, fun h => by rw [show _ = V.int _ from h]; exact .int _⟩
instance : ToD Bool := ⟨.bl, fun h => by rw [show _ = V.bl _ from h]; exact .bl _⟩
instance : ToD Str := ⟨.str, fun h => by rw [show _ = V.str _ from h]; exact .str _⟩
instance : ToD Unit := ⟨fun _ => .non, fun h => by rw [show _ = V.non from h]; exact .non⟩
instance : ToD Dat := ⟨fun d => d, fun h => h⟩
section
variable {α β γ : Type} [Py α] [Py β] [Py γ] [ToD α] [ToD β] [ToD γ]
theorem RepL.toD {K : Fg} {S : Hp} : ∀ {vs : List V} {l : List α}, RepL K S vs l → DRepL K S vs (l.map ToD.dat)
  | [], [], _ => .nil
  | _ :: _, _ :: _, h => .cons (ToD.of h.1) (RepL.toD h.2)
  | [], _ :: _, h => h.elim
  | _ :: _, [], h => h.elim
instance : ToD (List α) := ⟨fun l => .lst (l.map ToD.dat), fun ⟨p, vs, h1, h2, h3⟩ => by rw [h1]; exact .lst h2 h3.toD⟩
instance : ToD (Tp α) := ⟨fun l => .tup (l.l.map ToD.dat), fun ⟨p, vs, h1, h2, h3⟩ => by rw [h1]; exact .tup h2 h3.toD⟩
instance : ToD (α × β) := ⟨fun x => .tup [ToD.dat x.1, ToD.dat x.2], fun ⟨p, a, b, h1, h2, h3, h4⟩ => by rw [h1]; exact .tup h2 (.cons (ToD.of h3) (.cons (ToD.of h4) .nil))⟩
instance : ToD (T3 α β γ) := ⟨fun x => .tup [ToD.dat x.a, ToD.dat x.b, ToD.dat x.c], fun ⟨p, a, b, c, h1, h2, h3, h4, h5⟩ => by rw [h1]; exact .tup h2 (.cons (ToD.of h3) (.cons (ToD.of h4) (.cons (ToD.of h5) .nil)))⟩
instance : ToD (Option α) := ⟨fun x => match x with | none => .non | some y => ToD.dat y, fun {K S v x} h => by
  cases x with
  | none => rw [show _ = V.non from h]; exact .non
  | some y => exact ToD.of (x := y) h⟩
end
/-! lists of two unlike things -/
structure H2 (α β : Type) where
  a : α
  b : β
  deriving DecidableEq
section
variable {α β γ : Type} [Py α] [Py β] [Py γ]
instance : Py (H2 α β) := ⟨fun K S v x => ∃ p a b, v = .ref p ∧ S p = some (.lst [a, b]) ∧ Py.rep K S a x.a ∧ Py.rep K S b x.b, fun e ⟨p, a, b, h1, h2, h3, h4⟩ => ⟨p, a, b, h1, e _ _ h2, Py.mono e h3, Py.mono e h4⟩⟩
instance [Dt α] [Dt β] : Dt (H2 α β) := ⟨fun x => .list [Dt.dat x.a, Dt.dat x.b], fun e ⟨p, a, b, h1, h2, h3, h4⟩ => by rw [h1]; exact .lst (SqL.of (e _ _ h2)) (.cons (Dt.dp e h3) (.cons (Dt.dp e h4) .nil)),
  fun x => by simp [PyData.canLay0, PyData.canLayAll0, Dt.lay], max (Dt.dep α) (Dt.dep β) + 1, fun x => by
    have h1 := Dt.dle x.a
    have h2 := Dt.dle x.b
    simp only [PyData.depth, PyData.depthAll]
    omega, fun x y => by
    simp only [PyData.eqv, PyData.eqvAll, Bool.and_eq_true, Dt.eq, and_true]
    cases x; cases y
    simp⟩
end
section
variable {K : Fg} {B S0 S1 S S' D : Hp} {σ : L2.St} {H H' : Hp} {F : Nat → List Addr} {G G' G1 G2 G3 : List Sl} {ta tb tc te : TE} {i j : Nat} {t u : TS} {E : Ends}
theorem ev_h2 {α β : Type} [Py α] [Py β] {x : α} {y : β} (ha : EvX K ta G x G1) (hb : EvX K tb G1 y G2) : EvX K (tLst (tCons ta (tCons tb tNil))) G (H2.mk x y) G2 := fun B S0 S σ H F k Q q =>
  ha B S0 S σ H F k _ fun v S1 H1 e1 k1 r1 => hb B S0 S1 σ H1 F k1 _ fun u S2 H2 e2 k2 r2 => ⟨by show 2 ≤ sizeLine; decide, fun p hp => by
    have e3 := same_new (o := .lst [v, u]) (k2.free hp).1
    exact q (.ref p) _ _ ((e1.trans e2).trans e3) (k2.new hp) ⟨p, v, u, rfl, upd_same, Py.mono (e2.trans e3) r1, Py.mono e3 r2⟩⟩
theorem ev_h2a {α β : Type} [Py α] [Py β] {x : H2 α β} (ha : EvX K ta G x G1) : EvX K (tOp (rIxL K) ta (tC (.int 0))) G x.a G1 := fun B S0 S σ H F k Q q =>
  ha B S0 S σ H F k _ fun v S1 H1 e1 k1 r1 => by
    obtain ⟨p, a, b, rfl, hp, h1, h2⟩ := r1
    exact ⟨p, _, 0, a, rfl, rfl, SqL.of (k1.sub _ _ hp), atI_nat (j := 0) rfl, q a S1 H1 e1 k1 h1⟩
theorem ev_h2b {α β : Type} [Py α] [Py β] {x : H2 α β} (ha : EvX K ta G x G1) : EvX K (tOp (rIxL K) ta (tC (.int 1))) G x.b G1 := fun B S0 S σ H F k Q q =>
  ha B S0 S σ H F k _ fun v S1 H1 e1 k1 r1 => by
    obtain ⟨p, a, b, rfl, hp, h1, h2⟩ := r1
    exact ⟨p, _, 1, b, rfl, rfl, SqL.of (k1.sub _ _ hp), atI_nat (j := 1) rfl, q b S1 H1 e1 k1 h2⟩
/-- xs.pop(n), n drawn -/
theorem ev_popAt {α : Type} [Py α] [Inhabited α] {xs : List α} {n : Int} (hl0 : G[i]? = some (.ow xs)) (hn : EvX K te G n G1) (hl : G1[i]? = some (.ow xs)) (h : 0 ≤ n ∧ n < xs.length) (hx : xs.length ≤ 1000000) :
    EvX K (tBM K "list" rPopAt (tVar i) (tCons te tNil)) G (ix xs n) (G1.set i (.ow (xs.eraseIdx n.toNat))) := fun B S0 S σ H F k Q q => by
  obtain ⟨p, vs, h1, h2, h3, h4⟩ := own_list k hl0
  refine ⟨.ref p, h1, .inl ⟨rfl, _, SqL.of h3⟩, hn B S0 S σ H F k _ fun w S1 H1 e1 k1 r1 => ?_⟩
  obtain ⟨p', vs', h1', h2', h3', h4'⟩ := own_list k1 hl
  rw [h1] at h1'
  cases h1'
  obtain ⟨y, g1, g2⟩ := h4'.get (ix_at h.1 h.2)
  refine ⟨p, vs', n, n.toNat, y, rfl, by rw [show w = .int n from r1], h3', by omega, by omega, ?_, g1, q y S1 _ e1 (own_listUpd k1 h1 h2' (h4'.erase n.toNat)) g2⟩
  unfold seqIndex?
  rw [h4'.len]
  have a1 : ¬ n < 0 := by omega
  simp only [a1, if_false]
  rw [if_pos (by simp; omega)]
/-! any data -/
def Dat.tyn : Dat → String
  | .non => "NoneType"
  | .int _ => "int"
  | .bl _ => "bool"
  | .str _ => "str"
  | .tup _ => "tuple"
  | .lst _ => "list"
theorem DRep.ty {v : V} {d : Dat} (e : Same S H) (h : DRep K S v d) : TyX K H v (.type d.tyn) := by
  cases h with
  | non => exact .base .non
  | int i => exact .base (.int i)
  | bl i => exact .base (.bl i)
  | str i => exact .base (.str i)
  | tup a _ => exact tyT e a
  | lst a _ => exact .base (.lst (e _ _ a))
theorem EvX.dat {α : Type} [Py α] [ToD α] {x : α} (h : EvX K te G x G1) : EvX K te G (ToD.dat x) G1 := fun B S0 S σ H F k Q q => h B S0 S σ H F k Q fun v S' H' e k' r => q v S' H' e k' (ToD.of r)
theorem ev_isiD {c : String} {d : Dat} {b : Bool} (ha : EvX K ta G d G1) (h : kitB d.tyn c = some b) : EvX K (tCB (rIsi K) (tCons ta (tCons (tC (.ty c)) tNil))) G b G1 := fun B S0 S σ H F k Q q =>
  ha B S0 S σ H F k _ fun v S1 H1 e1 k1 r1 => ⟨v, .ty c, .type d.tyn, .type c, b, rfl, .ty c, DRep.ty k1.sub r1, kit_ty h, q _ S1 H1 e1 k1 rfl⟩
def Dat.isN : Dat → Bool
  | .non => true
  | _ => false
theorem ev_isND {d : Dat} (ha : EvX K ta G d G1) : EvX K (tIsN ta) G d.isN G1 := fun B S0 S σ H F k Q q =>
  ha B S0 S σ H F k _ fun v S1 H1 e1 k1 r1 => q _ S1 H1 e1 k1 (by
    cases r1 <;> rfl)
theorem EvX.unI {n : Int} (h : EvX K te G (Dat.int n) G1) : EvX K te G n G1 := fun B S0 S σ H F k Q q => h B S0 S σ H F k Q fun v S' H' e k' r => q v S' H' e k' (by cases r; rfl)
theorem EvX.unBl {n : Bool} (h : EvX K te G (Dat.bl n) G1) : EvX K te G n G1 := fun B S0 S σ H F k Q q => h B S0 S σ H F k Q fun v S' H' e k' r => q v S' H' e k' (by cases r; rfl)
theorem EvX.unS {n : Str} (h : EvX K te G (Dat.str n) G1) : EvX K te G n G1 := fun B S0 S σ H F k Q q => h B S0 S σ H F k Q fun v S' H' e k' r => q v S' H' e k' (by cases r; rfl)
theorem EvX.unT {n : List Dat} (h : EvX K te G (Dat.tup n) G1) : EvX K te G (Tp.mk n) G1 := fun B S0 S σ H F k Q q => h B S0 S σ H F k Q fun v S' H' e k' r => q v S' H' e k' (by
  cases r with
  | tup a b => exact ⟨_, _, rfl, a, b.rep⟩)
theorem EvX.unL {n : List Dat} (h : EvX K te G (Dat.lst n) G1) : EvX K te G n G1 := fun B S0 S σ H F k Q q => h B S0 S σ H F k Q fun v S' H' e k' r => q v S' H' e k' (by
  cases r with
  | lst a b => exact ⟨_, _, rfl, a, b.rep⟩)
theorem wk_zipT {α β : Type} [Py α] [Py β] {S : Hp} {p p' : Addr} {vs vs' : List V} {xs : List α} {ys : List β} (hp : SqT K S p vs) (r : RepL K S vs xs) (hp' : SqT K S p' vs') (r' : RepL K S vs' ys) : Wk K (RZ.ItzT K p p') S (xs.zip ys) := fun S' H' i e1 e2 => by
  have h1 : SqT K H' p vs := seqT e2 (seqT e1 hp)
  have h2 : SqT K H' p' vs' := seqT e2 (seqT e1 hp')
  refine ⟨fun x hx => ?_, fun hl => ⟨vs, vs', h1, h2, ?_⟩⟩
  · have hi := (List.getElem?_eq_some_iff.mp hx).1
    rw [List.length_zip] at hi
    have hx1 : xs[i]? = some x.1 := by
      rw [List.getElem?_eq_getElem (show i < (xs.zip ys).length by rw [List.length_zip]; exact hi), List.getElem_zip] at hx
      cases hx
      exact List.getElem?_eq_getElem _
    have hx2 : ys[i]? = some x.2 := by
      rw [List.getElem?_eq_getElem (show i < (xs.zip ys).length by rw [List.length_zip]; exact hi), List.getElem_zip] at hx
      cases hx
      exact List.getElem?_eq_getElem _
    obtain ⟨v, hv, rv⟩ := r.get hx1
    obtain ⟨v', hv', rv'⟩ := r'.get hx2
    refine ⟨⟨vs, vs', v, v', h1, h2, hv, hv'⟩, fun w H'' y => ?_⟩
    obtain ⟨T, u, u', rfl, hT, rfl, y1, y2⟩ := y
    have e := y1 vs h1
    rw [hv] at e
    cases e
    have e := y2 vs' h2
    rw [hv'] at e
    cases e
    have g := Grow.new (o := .tup [v, v']) e2 hT
    exact ⟨_, g, T, v, v', rfl, SqT.of upd_same, Py.mono (e1.trans g.s) rv, Py.mono (e1.trans g.s) rv'⟩
  · rw [List.length_zip] at hl
    rw [r.len, r'.len]
    omega
theorem it_zipAT {α β : Type} [Py α] [Py β] {xs : Tp α} {ys : Tp β} (h : EvX K ta G xs G1) (h' : EvX K tb G1 ys G2) : ItG K (RZ.iZipA K (tCons ta (tCons tb tNil))) G (xs.l.zip ys.l) G2 := fun B S0 S σ H F k R q =>
  h B S0 S σ H F k _ fun v S1 H1 e1 k1 r1 => h' B S0 S1 σ H1 F k1 _ fun w S2 H2 e2 k2 r2 => by
    obtain ⟨p, vs, rfl, hp, hr⟩ := Py.mono e2 r1
    obtain ⟨p', vs', rfl, hp', hr'⟩ := r2
    exact ⟨p, p', vs, vs', rfl, .inr ⟨seqT k2.sub hp, seqT k2.sub hp', q _ S2 H2 (e1.trans e2) k2 (wk_zipT hp hr hp' hr')⟩⟩
theorem it_zipAL {α β : Type} [Py α] [Py β] {xs : List α} {ys : List β} (h : EvX K ta G xs G1) (h' : EvX K tb G1 ys G2) : ItG K (RZ.iZipA K (tCons ta (tCons tb tNil))) G (xs.zip ys) G2 := fun B S0 S σ H F k R q =>
  h B S0 S σ H F k _ fun v S1 H1 e1 k1 r1 => h' B S0 S1 σ H1 F k1 _ fun w S2 H2 e2 k2 r2 => by
    obtain ⟨p, vs, rfl, hp, hr⟩ := Py.mono e2 r1
    obtain ⟨p', vs', rfl, hp', hr'⟩ := r2
    exact ⟨p, p', vs, vs', rfl, .inl ⟨SqL.of (k2.sub _ _ hp), SqL.of (k2.sub _ _ hp'), q _ S2 H2 (e1.trans e2) k2 (wk_zip hp hr hp' hr')⟩⟩
theorem inV_bls (x : Bool) : ∀ xs : List Bool, inV (.bl x) (xs.map V.bl) = decide (x ∈ xs)
  | [] => rfl
  | y :: ys => by
    have ih := inV_bls x ys
    unfold inV at ih ⊢
    rw [List.map_cons, List.any_cons, ih]
    by_cases e : y = x
    · subst e
      cases y <;> simp [eqV]
    · have : ¬ x = y := fun z => e z.symm
      cases x <;> cases y <;> simp_all [eqV]
theorem flat_bls : ∀ xs : List Bool, (xs.map V.bl).all flatV = true
  | [] => rfl
  | _ :: xs => by rw [List.map_cons, List.all_cons, flat_bls xs]; rfl
theorem ev_inB {x : Bool} {xs : List Bool} (ha : EvX K ta G x G) (hb : EvC K tb G xs G) : EvX K (tOp (rIn K false) ta tb) G (decide (x ∈ xs)) G := fun B S0 S σ H F k Q q =>
  ha B S0 S σ H F k _ fun v S1 H1 e1 k1 r1 => hb B S0 S1 σ H1 F k1 _ fun w S2 H2 e2 k2 r2 => by
    obtain ⟨p, vs, rfl, hp, hr⟩ := r2.at k2
    rw [hr.bls] at hp
    rw [show v = .bl x from r1]
    exact ⟨p, _, rfl, .inl (SqL.of hp), rfl, flat_bls _, q _ S2 H2 (e1.trans e2) k2 (by rw [inV_bls]; rfl)⟩
theorem ev_ninB {x : Bool} {xs : List Bool} (ha : EvX K ta G x G) (hb : EvC K tb G xs G) : EvX K (tOp (rIn K true) ta tb) G (!decide (x ∈ xs)) G := fun B S0 S σ H F k Q q =>
  ha B S0 S σ H F k _ fun v S1 H1 e1 k1 r1 => hb B S0 S1 σ H1 F k1 _ fun w S2 H2 e2 k2 r2 => by
    obtain ⟨p, vs, rfl, hp, hr⟩ := r2.at k2
    rw [hr.bls] at hp
    rw [show v = .bl x from r1]
    exact ⟨p, _, rfl, .inl (SqL.of hp), rfl, flat_bls _, q _ S2 H2 (e1.trans e2) k2 (by rw [inV_bls]; rfl)⟩
end
/-- what `_law_same` keeps: True of two of one shape and content -/
abbrev spSame (K : Fg) (k : Nat) : Sp := spF K (fun (_ : Dat × Dat × Unit) => true) (fun a => a.1 = a.2.1 ∧ DLe k a.1)
end GL

/-! Calls that read an owned dict; comprehensions whose state is told by what was done. -/
namespace GL
open PySem PySem.Spec PyProof.Rows L2
/-- a heap without one object -/
def del (S : Hp) (p : Addr) : Hp := fun q => if q = p then none else S q
theorem del_self {S : Hp} {p : Addr} : del S p p = none := if_pos rfl
theorem del_ne {S : Hp} {p q : Addr} (h : q ≠ p) : del S p q = S q := if_neg h
/-- kinds that hold no dict -/
class NoD (α : Type) [Py α] : Prop where
  go : ∀ {K : Fg} {S : Hp} {p : Addr} {kvs : List (Key × V)} {v : V} {x : α}, S p = some (.dK kvs) → Py.rep K S v x → Py.rep K (del S p) v x
theorem noT {K : Fg} {S : Hp} {p a : Addr} {kvs : List (Key × V)} {vs : List V} (h : S p = some (.dK kvs)) (r : SqT K S a vs) : SqT K (del S p) a vs := by
  rcases r with (r | ⟨o, r⟩) | r
  · exact .inl (.inl (by rw [del_ne (fun e => by rw [e, h] at r; cases r)]; exact r))
  · exact .inl (.inr ⟨o, by rw [del_ne (fun e => by rw [e, h] at r; cases r)]; exact r⟩)
  · exact .inr r
section
variable {α β γ : Type} [Py α] [Py β] [Py γ]
theorem noL [NoD α] {K : Fg} {S : Hp} {p : Addr} {kvs : List (Key × V)} (h : S p = some (.dK kvs)) : ∀ {vs : List V} {xs : List α}, RepL K S vs xs → RepL K (del S p) vs xs
  | [], [], _ => True.intro
  | _ :: _, _ :: _, r => ⟨NoD.go h r.1, noL h r.2⟩
  | [], _ :: _, r => r.elim
  | _ :: _, [], r => r.elim
instance : NoD Int := ⟨fun _ h => h⟩
instance : NoD Bool := ⟨fun _ h => h⟩
instance : NoD Str := ⟨fun _ h => h⟩
instance : NoD Unit := ⟨fun _ h => h⟩
instance [NoD α] : NoD (List α) := ⟨fun h ⟨a, vs, h1, h2, h3⟩ => ⟨a, vs, h1, by rw [del_ne (fun e => by rw [e, h] at h2; cases h2)]; exact h2, noL h h3⟩⟩
instance [NoD α] : NoD (Tp α) := ⟨fun h ⟨a, vs, h1, h2, h3⟩ => ⟨a, vs, h1, noT h h2, noL h h3⟩⟩
instance [NoD α] [NoD β] : NoD (α × β) := ⟨fun h ⟨a, x, y, h1, h2, h3, h4⟩ => ⟨a, x, y, h1, noT h h2, NoD.go h h3, NoD.go h h4⟩⟩
instance [NoD α] [NoD β] [NoD γ] : NoD (T3 α β γ) := ⟨fun h ⟨a, x, y, z, h1, h2, h3, h4, h5⟩ => ⟨a, x, y, z, h1, noT h h2, NoD.go h h3, NoD.go h h4, NoD.go h h5⟩⟩
instance [NoD α] : NoD (Option α) := ⟨fun {K S p kvs v x} h r => by
  cases x with
  | none => exact r
  | some y => exact NoD.go (x := y) h r⟩
end
section
variable {K : Fg} {B S0 S1 S S' D : Hp} {σ : L2.St} {H H' : Hp} {F : Nat → List Addr} {G G' G1 G2 G3 : List Sl} {ta tb tc te : TE} {i j : Nat} {t u : TS} {E : Ends}
/-- plain arguments: names alone -/
def EvV {α : Type} [PyA α] (K : Fg) (ta : TA) (G : List Sl) (x : α) : Prop :=
  ∀ B S0 S σ H F, Kn K B S0 S σ H F G → ∀ Q : List V → Hp → Prop, (∀ vs, PyA.rep K S vs x → Q vs H) → ta σ H Q
theorem vv_nil : EvV K tNil G () := fun B S0 S σ H F k Q q => q [] rfl
theorem vv_cons {α δ : Type} [Py α] [PyA δ] {x : α} {tr : TA} {xs : δ} (h : G[i]? = some (.im x)) (hr : EvV K tr G xs) : EvV K (tCons (tVar i) tr) G (x, xs) := fun B S0 S σ H F k Q q => by
  obtain ⟨v, h1, h2⟩ := k.im h
  exact ⟨v, h1, hr B S0 S σ H F k _ fun vs r => q (v :: vs) ⟨v, vs, rfl, h2, r⟩⟩
theorem vv_int {δ : Type} [PyA δ] {x : Int} {tr : TA} {xs : δ} (hr : EvV K tr G xs) : EvV K (tCons (tC (.int x)) tr) G (x, xs) := fun B S0 S σ H F k Q q => hr B S0 S σ H F k _ fun vs r => q (.int x :: vs) ⟨.int x, vs, rfl, rfl, r⟩
/-- an owned dict is settled, told where -/
theorem Kn.relDat {δ : Type} [Py δ] {d : Dct δ} {p : Addr} {kvs : List (Key × V)} (k : Kn K B S0 S σ H F G) (h : G[i]? = some (.ow d)) (hv : σ[i]? = some (some (.ref p))) (hp : F i = [p]) (h1 : H p = some (.dK kvs)) (h2 : RepD K S kvs d.l) : Kn K B S0 (upd S p (.dK kvs)) σ H (upF F i []) (G.set i (.im d)) := by
  obtain ⟨hs, hb, _⟩ := k.off i p (by rw [hp]; exact List.mem_singleton.mpr rfl)
  have k1 : Kn K B S0 S σ H (upF F i []) (G.set i .no) := by
    refine ⟨k.s0, k.sub, k.keep, k.clean, fun j q hq => ?_, fun a b q ha hb' => ?_, by rw [List.length_set]; exact k.len, fun j s e => ?_⟩
    · by_cases e : j = i
      · rw [e, upF_self] at hq
        cases hq
      · rw [upF_ne e] at hq
        exact k.off j q hq
    · by_cases ea : a = i
      · rw [ea, upF_self] at ha
        cases ha
      · by_cases eb : b = i
        · rw [eb, upF_self] at hb'
          cases hb'
        · rw [upF_ne ea] at ha
          rw [upF_ne eb] at hb'
          exact k.dj a b q ha hb'
    · rcases set_get e with ⟨rfl, rfl⟩ | ⟨ne, e⟩
      · exact True.intro
      · rw [upF_ne ne]
        exact k.sl j s e
  have hf : ∀ j, p ∉ upF F i [] j := fun j hj => by
    by_cases e : j = i
    · rw [e, upF_self] at hj
      cases hj
    · rw [upF_ne e] at hj
      exact e (k.dj j i p hj (by rw [hp]; exact List.mem_singleton.mpr rfl))
  have k2 := k1.settle h1 hs hb hf
  have hl : i < G.length := (List.getElem?_eq_some_iff.mp h).1
  have k3 := k2.set (i := i) (v := .ref p) (x := d) ⟨p, kvs, rfl, upd_same, h2.mono (same_new hs)⟩ (by rw [List.getElem?_set_self hl]; rfl)
  have e1 : σ.set i (some (.ref p)) = σ := by
    apply List.ext_getElem?
    intro j
    by_cases e : i = j
    · subst e
      rw [List.getElem?_set_self (by rw [← k.len]; exact hl)]
      exact hv.symm
    · rw [List.getElem?_set_ne e]
  rw [e1, List.set_set] at k3
  exact k3
/-- what a call leaves that read an owned dict -/
theorem Grow.lent {p : Addr} {o : HO} {S2 H2 : Hp} (hs : S p = none) (g : Grow (upd S p o) H S2 H2) : Grow S H (del S2 p) H2 := by
  refine ⟨fun q x e => ?_, fun q x e => ?_, g.h, fun q x e => ?_⟩
  · have z : q ≠ p := fun z => by rw [z, hs] at e; cases e
    rw [del_ne z]
    exact g.s q x (by rw [upd_ne z]; exact e)
  · by_cases z : q = p
    · rw [z, del_self] at e
      cases e
    · rw [del_ne z] at e
      exact g.sub q x e
  · by_cases z : q = p
    · rw [z, del_self, hs]
    · rw [del_ne z, g.cl q x e, upd_ne z]
/-- a call that reads an owned dict -/
theorem ev_callB {δ α β : Type} [Py δ] [PyA α] [Py β] [NoD β] {f : α → β} {pre : α → Prop} {a : α} {t : TA} {E : XK} {d : Dct δ} (hi : G[i]? = some (.ow d)) (ha : EvV K t (G.set i (.im d)) a) (hp : pre a) : EvX K (tCall (spF K f pre) [] E t) G (f a) G := fun B S0 S σ H F k Q q => by
  obtain ⟨v, hv, p, kvs, rfl, hF, h1, h2⟩ := k.ow hi
  obtain ⟨hs, hb, _⟩ := k.off i p (by rw [hF]; exact List.mem_singleton.mpr rfl)
  have k' := k.relDat hi hv hF h1 h2
  refine ha B S0 _ σ H _ k' _ fun vs r => ?_
  show spF K f pre (vs ++ []) H _ E
  rw [List.append_nil]
  refine ⟨upd S p (.dK kvs), a, k'.sub, r, hp, fun w S2 H2 g r2 => ?_⟩
  have gl := g.lent hs
  exact q w (del S2 p) H2 gl.s (k.grow gl) (NoD.go (g.s _ _ upd_same) r2)
/-- a comprehension that turns owned things, the state told by what was done -/
theorem el_lcP {α β τ : Type} [Py α] [Py β] {wi : TI} {g : TG} {te : TE} {vs : List Nat} {xs : List α} (γ : τ → List Sl) (s0 : τ) (step : τ → α → τ) (e : τ → α → β) (hi : ItG K wi G xs (γ s0)) (hl : xs.length ≤ 1000000)
    (hs : ∀ pre x post, pre ++ x :: post = xs → ∀ s, s = pre.foldl step s0 → ∃ G2 ts, TgG K g x (wipeG (γ s) vs) G2 ts ∧ (∀ t ∈ ts, t ∈ vs) ∧ ∃ G4, EvX K te G2 (e s x) G4 ∧ Bk vs 0 (γ (step s x)) G4 (γ s)) :
    EvL K (tLc wi g tYes te vs) G (mapX e step xs s0).1 (γ (mapX e step xs s0).2) := by
  have h := el_lcX (K := K) (wi := wi) (g := g) (tt := tYes) (te := te) (vs := vs) (G := G) γ s0 step (fun _ _ => true) e hi hl fun pre x post ex s hs' => by
    obtain ⟨G2, ts, tg, hts, G4, he, bk⟩ := hs pre x post ex s hs'
    refine ⟨G2, ts, tg, hts, G2, G4, et_yes, fun _ => he, (fun h => nomatch h), fun j sl hj => ?_, bk.len⟩
    have := bk.get j sl hj
    rw [Nat.zero_add] at this
    exact this
  simp only [if_true] at h
  rw [mapX_snd]
  exact h
end
theorem pe_bmK {X : Cx} {K : Fg} {o e : Expr} {es : List Expr} {to : TE} {t : TA} {name : Str} {apos cpos : Pos} {T id : String} {r : V → List V → Hp → VK → Prop} (hK : X.K = K) (pa : PlainAttrs T) (slot : Slot T name id) (hty : typeOf (.builtin id) = pure (.type "method_descriptor")) (hm : MtR X id r) (ho : PE X o to) (ha : PA X (e :: es) t)
    (hbase : attributeBase o name X.env (eval o X.env) = eval o X.env := by rfl)
    (hfew : ((backTo cpos (starEach (e :: es) X.env)).all (fun x => !x.1) && (backToKw cpos (keywordEach [] X.env)).all (fun x => x.1.isSome) && decide ((e :: es).length + ([] : List Keyword).length + (if ([] : List Keyword).isEmpty then 0 else 1) < 30)) = true := by rfl)
    (hline : (apos.endLine == cpos.line) = true := by rfl) (hs : starEach (e :: es) X.env = (false, eval e X.env) :: starEach es X.env := by rfl) (hplain : (backTo cpos (starEach es X.env)).any (·.1) = false := by rfl) :
    PE X (.Call (.Attribute o name apos) (e :: es) [] cpos) (tBM K T r to t) := by
  subst hK
  exact pe_bm pa slot hty hm ho ha hbase hfew hline hs hplain
end GL

/-! Tuples cut and joined, tuples of five, rows of programs, calls that read an owned list. -/
namespace L2
open PySem PySem.Spec PyProof.Rows
section
variable {X : Cx}
/-- sorted(set(t)), t a tuple of whole numbers -/
def tSortSetT (K : PySem.W.Frag) (ta : TE) : TE := fun σ H Q => ta σ H fun x H1 => ∃ (l : Addr) (ns : List Int), x = V.ref l ∧ SqT K H1 l (ns.map V.int) ∧ ns.length < 64 ∧
  ∀ (ms : List Int) (p : Addr), ms.Pairwise (· < ·) → (∀ k : Int, k ∈ ms ↔ k ∈ ns) → H1 p = none → Q (.ref p) (upd H1 p (.lst (ms.map V.int)))
theorem pe_sortSetT {a : Expr} {ta : TE} {p p2 q pos : Pos} (hc : X.calm = true) (hg : Gl X "sorted") (hm : X.mg "sorted" = none) (hg2 : Gl X "set") (hm2 : X.mg "set" = none) (ha : PE X a ta)
    (na : starEach [a] X.env = (false, eval a X.env) :: starEach [] X.env := by rfl) : PE X (.Call (.Name "sorted" p) [.Call (.Name "set" p2) [a] [] q] [] pos) (tSortSetT X.K ta) := by
  refine ⟨fun pins s σ H Q I h => ?_⟩
  refine Call_ (ld_blt I hg hm PyProof.Rows.boot_sorted ?_)
  refine PyProof.Rows.callWith_builtin1 (PyProof.Rows.args_cons ?_ rfl) rfl rfl
  refine Call_ (ld_blt I hg2 hm2 PyProof.Rows.boot_set ?_)
  refine PyProof.Rows.callWith_type1 (PyProof.Rows.args_cons (thn (ha.run pins s σ H _ I h) fun v s1 ⟨x, H1, I1, r1, q1⟩ => PyProof.Rows.args_nil ?_) na) na rfl
  obtain ⟨l, ns, rfl, hq, h1, q1⟩ := q1
  cases r1
  obtain ⟨its, r, pl, hz⟩ := I1.tuple hq
  refine call_set_tupI ns (I1.ok.hd hc) (show s1.heap.IsTuple l its.toArray from pl) (by simpa using r.ints) (by unfold scanBound; omega) fun h' tk c R hcn hk => ?_
  refine PyProof.Rows.args_nil ?_
  have I2 : Inv X pins σ H1 { s1 with heap := h', toks := tk } := I1.kept hk
  refine sorted_set R (I2.ok.hd hc) (by omega) fun s' p out c ms k g o hp hg hi hs hm hl => ?_
  have hlen : (ms.map V.int).length ≤ sizeLine := by rw [List.length_map, hl, sizeLine_eq]; omega
  have hn : H1 p = none := I2.hok.fresh hp
  have J : Inv X pins σ (upd H1 p (.lst (ms.map V.int))) { { s1 with heap := h', toks := tk } with heap := s'.heap, gens := s'.gens, drawn := s'.drawn, toks := s'.toks } :=
    I2.call (ch := []) (Un.laid k hp hn) (I2.hok.laid k hp ⟨hlen, out.toList, c, vals_of_ints hi, hg⟩) (by rw [g]; exact I2.bare) (fun _ z => nomatch z)
  have e : s' = { { s1 with heap := h', toks := tk } with heap := s'.heap, gens := s'.gens, drawn := s'.drawn, toks := s'.toks } := by
    cases s'
    cases s1
    cases o
    rfl
  rw [e]
  exact ⟨.ref p, _, J, rfl, q1 ms p hs (fun k => by rw [hm k]; exact decide_eq_true_iff) hn⟩
end
end L2
namespace GL
open PySem PySem.Spec PyProof.Rows L2
/-! tuples of five -/
structure T5 (α β γ δ ε : Type) where
  a : α
  b : β
  c : γ
  d : δ
  e : ε
  deriving DecidableEq
section
variable {α β γ δ ε : Type} [Py α] [Py β] [Py γ] [Py δ] [Py ε]
instance : Py (T5 α β γ δ ε) := ⟨fun K S v x => ∃ p a b c d e, v = .ref p ∧ SqT K S p [a, b, c, d, e] ∧ Py.rep K S a x.a ∧ Py.rep K S b x.b ∧ Py.rep K S c x.c ∧ Py.rep K S d x.d ∧ Py.rep K S e x.e,
  fun z ⟨p, a, b, c, d, e, h1, h2, h3, h4, h5, h6, h7⟩ => ⟨p, a, b, c, d, e, h1, seqT z h2, Py.mono z h3, Py.mono z h4, Py.mono z h5, Py.mono z h6, Py.mono z h7⟩⟩
instance [ToD α] [ToD β] [ToD γ] [ToD δ] [ToD ε] : ToD (T5 α β γ δ ε) := ⟨fun x => .tup [ToD.dat x.a, ToD.dat x.b, ToD.dat x.c, ToD.dat x.d, ToD.dat x.e], fun ⟨p, a, b, c, d, e, h1, h2, h3, h4, h5, h6, h7⟩ => by
  rw [h1]; exact .tup h2 (.cons (ToD.of h3) (.cons (ToD.of h4) (.cons (ToD.of h5) (.cons (ToD.of h6) (.cons (ToD.of h7) .nil)))))⟩
/-- kinds that hold no list -/
class NoL (α : Type) [Py α] : Prop where
  go : ∀ {K : Fg} {S : Hp} {p : Addr} {us : List V} {v : V} {x : α}, S p = some (.lst us) → Py.rep K S v x → Py.rep K (del S p) v x
end
theorem nlT {K : Fg} {S : Hp} {p a : Addr} {us : List V} {vs : List V} (h : S p = some (.lst us)) (r : SqT K S a vs) : SqT K (del S p) a vs := by
  rcases r with (r | ⟨o, r⟩) | r
  · exact .inl (.inl (by rw [del_ne (fun e => by rw [e, h] at r; cases r)]; exact r))
  · exact .inl (.inr ⟨o, by rw [del_ne (fun e => by rw [e, h] at r; cases r)]; exact r⟩)
  · exact .inr r
section
variable {α β γ δ ε : Type} [Py α] [Py β] [Py γ] [Py δ] [Py ε]
theorem nlAll [NoL α] {K : Fg} {S : Hp} {p : Addr} {us : List V} (h : S p = some (.lst us)) : ∀ {vs : List V} {xs : List α}, RepL K S vs xs → RepL K (del S p) vs xs
  | [], [], _ => True.intro
  | _ :: _, _ :: _, r => ⟨NoL.go h r.1, nlAll h r.2⟩
  | [], _ :: _, r => r.elim
  | _ :: _, [], r => r.elim
instance : NoL Int := ⟨fun _ h => h⟩
instance : NoL Bool := ⟨fun _ h => h⟩
instance : NoL Str := ⟨fun _ h => h⟩
instance : NoL Unit := ⟨fun _ h => h⟩
instance [NoL α] : NoL (Tp α) := ⟨fun h ⟨a, vs, h1, h2, h3⟩ => ⟨a, vs, h1, nlT h h2, nlAll h h3⟩⟩
instance [NoL α] [NoL β] : NoL (α × β) := ⟨fun h ⟨a, x, y, h1, h2, h3, h4⟩ => ⟨a, x, y, h1, nlT h h2, NoL.go h h3, NoL.go h h4⟩⟩
instance [NoL α] [NoL β] [NoL γ] : NoL (T3 α β γ) := ⟨fun h ⟨a, x, y, z, h1, h2, h3, h4, h5⟩ => ⟨a, x, y, z, h1, nlT h h2, NoL.go h h3, NoL.go h h4, NoL.go h h5⟩⟩
instance [NoL α] [NoL β] [NoL γ] [NoL δ] [NoL ε] : NoL (T5 α β γ δ ε) := ⟨fun h ⟨p, a, b, c, d, e, h1, h2, h3, h4, h5, h6, h7⟩ => ⟨p, a, b, c, d, e, h1, nlT h h2, NoL.go h h3, NoL.go h h4, NoL.go h h5, NoL.go h h6, NoL.go h h7⟩⟩
instance [NoL α] : NoL (Option α) := ⟨fun {K S p us v x} h r => by
  cases x with
  | none => exact r
  | some y => exact NoL.go (x := y) h r⟩
end
/-! rows of programs -/
inductive WRow
  | set (p v : Int)
  | add (p q : Int)
  | jump (p r : Int)
  | say (p : Int)
  | take (p : Int)
  | fin
  deriving DecidableEq
instance : Inhabited WRow := ⟨.fin⟩
def sW (s : String) : Str := Str.ofString s
namespace WRow
def word : WRow → Str
  | .set _ _ => Str.ofString "set"
  | .add _ _ => Str.ofString "add"
  | .jump _ _ => Str.ofString "jump"
  | .say _ => Str.ofString "say"
  | .take _ => Str.ofString "take"
  | .fin => Str.ofString "end"
def nums : WRow → List Int
  | .set p v => [p, v]
  | .add p q => [p, q]
  | .jump p r => [p, r]
  | .say p => [p]
  | .take p => [p]
  | .fin => []
def vals (r : WRow) : List V := .str r.word :: r.nums.map V.int
def a1 (r : WRow) : Int := r.nums.getD 0 0
def a2 (r : WRow) : Int := r.nums.getD 1 0
def dat (r : WRow) : PyData := .tuple (.str r.word :: r.nums.map PyData.int)
end WRow
instance : Py WRow := ⟨fun K S v r => ∃ p, v = .ref p ∧ SqT K S p r.vals, fun e ⟨p, h1, h2⟩ => ⟨p, h1, seqT e h2⟩⟩
instance : NoL WRow := ⟨fun h ⟨p, h1, h2⟩ => ⟨p, h1, nlT h h2⟩⟩
theorem nn_row : ∀ (K : Fg) (S : Hp) (v : V) (y : WRow), Py.rep K S v y → v ≠ .non := fun K S v y ⟨p, r, _⟩ e => by
  rw [r] at e
  cases e
section
variable {K : Fg} {B S0 S1 S S' D : Hp} {σ : L2.St} {H H' : Hp} {F : Nat → List Addr} {G G' G1 G2 G3 G4 G5 : List Sl} {ta tb tc td te : TE} {i j l : Nat} {t u : TS} {E : Ends}
section
variable {α β γ δ ε : Type} [Py α] [Py β] [Py γ] [Py δ] [Py ε]
theorem ev_t5 {x : α} {y : β} {z : γ} {w : δ} {v : ε} (ha : EvX K ta G x G1) (hb : EvX K tb G1 y G2) (hc : EvX K tc G2 z G3) (hd : EvX K td G3 w G4) (he : EvX K te G4 v G5) : EvX K (tTup (tCons ta (tCons tb (tCons tc (tCons td (tCons te tNil)))))) G (T5.mk x y z w v) G5 := fun B S0 S σ H F k Q q =>
  ha B S0 S σ H F k _ fun v1 S1 H1 e1 k1 r1 => hb B S0 S1 σ H1 F k1 _ fun v2 S2 H2 e2 k2 r2 => hc B S0 S2 σ H2 F k2 _ fun v3 S3 H3 e3 k3 r3 => hd B S0 S3 σ H3 F k3 _ fun v4 S4 H4 e4 k4 r4 => he B S0 S4 σ H4 F k4 _ fun v5 S5 H5 e5 k5 r5 => ⟨by show 5 ≤ sizeLine; decide, fun p hp => by
    have e6 := same_new (o := .tup [v1, v2, v3, v4, v5]) (k5.free hp).1
    exact q (.ref p) _ _ (((((e1.trans e2).trans e3).trans e4).trans e5).trans e6) (k5.new hp) ⟨p, v1, v2, v3, v4, v5, rfl, SqT.of upd_same, Py.mono ((((e2.trans e3).trans e4).trans e5).trans e6) r1, Py.mono (((e3.trans e4).trans e5).trans e6) r2, Py.mono ((e4.trans e5).trans e6) r3, Py.mono (e5.trans e6) r4, Py.mono e6 r5⟩⟩
variable {w : T5 α β γ δ ε}
theorem ev_5a (ha : EvX K ta G w G1) : EvX K (tOp (rIxT K) ta (tC (.int 0))) G w.a G1 := fun B S0 S σ H F k Q q =>
  ha B S0 S σ H F k _ fun v S1 H1 e1 k1 r1 => by
    obtain ⟨p, a, b, c, d, e, rfl, hp, h1, h2, h3, h4, h5⟩ := r1
    exact ⟨p, _, 0, a, rfl, rfl, seqT k1.sub hp, atI_nat (j := 0) rfl, q a S1 H1 e1 k1 h1⟩
theorem ev_5b (ha : EvX K ta G w G1) : EvX K (tOp (rIxT K) ta (tC (.int 1))) G w.b G1 := fun B S0 S σ H F k Q q =>
  ha B S0 S σ H F k _ fun v S1 H1 e1 k1 r1 => by
    obtain ⟨p, a, b, c, d, e, rfl, hp, h1, h2, h3, h4, h5⟩ := r1
    exact ⟨p, _, 1, b, rfl, rfl, seqT k1.sub hp, atI_nat (j := 1) rfl, q b S1 H1 e1 k1 h2⟩
theorem ev_5c (ha : EvX K ta G w G1) : EvX K (tOp (rIxT K) ta (tC (.int 2))) G w.c G1 := fun B S0 S σ H F k Q q =>
  ha B S0 S σ H F k _ fun v S1 H1 e1 k1 r1 => by
    obtain ⟨p, a, b, c, d, e, rfl, hp, h1, h2, h3, h4, h5⟩ := r1
    exact ⟨p, _, 2, c, rfl, rfl, seqT k1.sub hp, atI_nat (j := 2) rfl, q c S1 H1 e1 k1 h3⟩
theorem ev_5d (ha : EvX K ta G w G1) : EvX K (tOp (rIxT K) ta (tC (.int 3))) G w.d G1 := fun B S0 S σ H F k Q q =>
  ha B S0 S σ H F k _ fun v S1 H1 e1 k1 r1 => by
    obtain ⟨p, a, b, c, d, e, rfl, hp, h1, h2, h3, h4, h5⟩ := r1
    exact ⟨p, _, 3, d, rfl, rfl, seqT k1.sub hp, atI_nat (j := 3) rfl, q d S1 H1 e1 k1 h4⟩
theorem ev_5e (ha : EvX K ta G w G1) : EvX K (tOp (rIxT K) ta (tC (.int 4))) G w.e G1 := fun B S0 S σ H F k Q q =>
  ha B S0 S σ H F k _ fun v S1 H1 e1 k1 r1 => by
    obtain ⟨p, a, b, c, d, e, rfl, hp, h1, h2, h3, h4, h5⟩ := r1
    exact ⟨p, _, 4, e, rfl, rfl, seqT k1.sub hp, atI_nat (j := 4) rfl, q e S1 H1 e1 k1 h5⟩
theorem tg_t5 {g1 g2 g3 g4 g5 : TG} {t1 t2 t3 t4 t5 : List Nat} (h1 : TgG K g1 w.a G G1 t1) (h2 : TgG K g2 w.b G1 G2 t2) (h3 : TgG K g3 w.c G2 G3 t3) (h4 : TgG K g4 w.d G3 G4 t4) (h5 : TgG K g5 w.e G4 G5 t5) :
    TgG K (gTup K 5 (gCons g1 (gCons g2 (gCons g3 (gCons g4 (gCons g5 gNil)))))) w G G5 (t1 ++ (t2 ++ (t3 ++ (t4 ++ t5)))) :=
  ⟨fun j hj => (((((h5.1 j (notL (notL (notL (notL hj).2).2).2).2).trans (h4.1 j (notL (notL (notL (notL hj).2).2).2).1)).trans (h3.1 j (notL (notL (notL hj).2).2).1)).trans (h2.1 j (notL (notL hj).2).1)).trans (h1.1 j (notL hj).1)), fun B S0 S σ H F v k r Q q => by
  obtain ⟨p, a, b, c, d, e, rfl, hp, ra, rb, rc, rd, re⟩ := r
  refine ⟨p, [a, b, c, d, e], rfl, seqT k.sub hp, rfl, a, [b, c, d, e], rfl, h1.2 B S0 S σ H F a k ra _ fun σ1 k1 o1 w1 => ⟨b, [c, d, e], rfl, h2.2 B S0 S σ1 H F b k1 rb _ fun σ2 k2 o2 w2 => ⟨c, [d, e], rfl, h3.2 B S0 S σ2 H F c k2 rc _ fun σ3 k3 o3 w3 =>
    ⟨d, [e], rfl, h4.2 B S0 S σ3 H F d k3 rd _ fun σ4 k4 o4 w4 => ⟨e, [], rfl, h5.2 B S0 S σ4 H F e k4 re _ fun σ5 k5 o5 w5 => ⟨rfl, q σ5 k5 (fun j hj => ?_) fun vs hv => ?_⟩⟩⟩⟩⟩⟩
  · exact ((((o5 j (notL (notL (notL (notL hj).2).2).2).2).trans (o4 j (notL (notL (notL (notL hj).2).2).2).1)).trans (o3 j (notL (notL (notL hj).2).2).1)).trans (o2 j (notL (notL hj).2).1)).trans (o1 j (notL hj).1)
  · have m1 : ∀ t ∈ t1, t ∈ vs := fun t ht => hv t (List.mem_append_left _ ht)
    have m2 : ∀ t ∈ t2, t ∈ vs := fun t ht => hv t (List.mem_append_right _ (List.mem_append_left _ ht))
    have m3 : ∀ t ∈ t3, t ∈ vs := fun t ht => hv t (List.mem_append_right _ (List.mem_append_right _ (List.mem_append_left _ ht)))
    have m4 : ∀ t ∈ t4, t ∈ vs := fun t ht => hv t (List.mem_append_right _ (List.mem_append_right _ (List.mem_append_right _ (List.mem_append_left _ ht))))
    have m5 : ∀ t ∈ t5, t ∈ vs := fun t ht => hv t (List.mem_append_right _ (List.mem_append_right _ (List.mem_append_right _ (List.mem_append_right _ ht))))
    rw [w5 vs m5, w4 vs m4, w3 vs m3, w2 vs m2, w1 vs m1]⟩
theorem qg_t5 (i j l m n : Nat) (h : EvX K te G w G1) (hi : G1[i]?.isSome = true) (hj : (G1.set i (.im w.a))[j]?.isSome = true) (hl : ((G1.set i (.im w.a)).set j (.im w.b))[l]?.isSome = true) (hm : (((G1.set i (.im w.a)).set j (.im w.b)).set l (.im w.c))[m]?.isSome = true) (hn : ((((G1.set i (.im w.a)).set j (.im w.b)).set l (.im w.c)).set m (.im w.d))[n]?.isSome = true)
    (k : ∀ a b c d e, a = w.a → b = w.b → c = w.c → d = w.d → e = w.e → At K B S0 (u E) (((((G1.set i (.im a)).set j (.im b)).set l (.im c)).set m (.im d)).set n (.im e))) :
    At K B S0 (tSeq (tAsg te (gTup K 5 (gCons (gName i) (gCons (gName j) (gCons (gName l) (gCons (gName m) (gCons (gName n) gNil))))))) u E) G := q_asg h (tg_t5 (tg_name hi) (tg_name hj) (tg_name hl) (tg_name hm) (tg_name hn)) (k _ _ _ _ _ rfl rfl rfl rfl rfl)
/-! tuples cut and joined -/
theorem ev_slT {xs : Tp α} {tl th : TO} {lo hi : Option Int} (h : EvX K ta G xs G) (hl : EvO K tl G lo) (hh : EvO K th G hi) : EvX K (tSl (rSlA K) ta tl th) G (Tp.mk (cutL xs.l lo hi)) G := fun B S0 S σ H F k Q q =>
  h B S0 S σ H F k _ fun v S1 H1 e1 k1 r1 => hl B S0 S1 σ H1 F k1 _ fun S2 H2 e2 k2 => hh B S0 S2 σ H2 F k2 _ fun S3 H3 e3 k3 => by
    obtain ⟨p, vs, rfl, hp, hr⟩ := Py.mono (e2.trans e3) r1
    have e4 : Same S S3 := (e1.trans e2).trans e3
    refine ⟨p, vs, rfl, seqT k3.sub hp, fun hw => ?_, fun _ l hl => ?_⟩
    · have ec : cutL xs.l lo hi = xs.l := by
        unfold cutL
        rw [hr.len] at hw
        rw [hw.1, hw.2, List.drop_zero, Nat.sub_zero, List.take_length]
      exact q _ S3 H3 e4 k3 ⟨p, vs, rfl, hp, by show RepL K S3 vs (cutL xs.l lo hi); rw [ec]; exact hr⟩
    · have e5 := same_new (o := .tup (cutV vs lo hi)) (k3.free hl).1
      exact q _ _ _ (e4.trans e5) (k3.new hl) ⟨l, _, rfl, SqT.of upd_same, (hr.cut lo hi).mono e5⟩
theorem ev_catT {xs ys : Tp α} (ha : EvX K ta G xs G1) (hb : EvX K tb G1 ys G2) (hz : xs.l.length + ys.l.length ≤ sizeLine) : EvX K (tOp (rCatA K) ta tb) G (Tp.mk (xs.l ++ ys.l)) G2 := fun B S0 S σ H F k Q q =>
  ha B S0 S σ H F k _ fun v S1 H1 e1 k1 r1 => hb B S0 S1 σ H1 F k1 _ fun w S2 H2 e2 k2 r2 => by
    obtain ⟨p, vs, rfl, hp, hr⟩ := Py.mono e2 r1
    obtain ⟨p', vs', rfl, hp', hr'⟩ := r2
    refine ⟨p, p', vs, vs', rfl, rfl, seqT k2.sub hp, seqT k2.sub hp', by rw [hr.len, hr'.len]; exact hz, fun e => ?_, fun _ e => ?_, fun _ _ l hl => ?_⟩
    · have e1' : xs.l = [] := List.eq_nil_of_length_eq_zero (by rw [← hr.len, e]; rfl)
      exact q _ S2 H2 (e1.trans e2) k2 ⟨p', vs', rfl, hp', by show RepL K S2 vs' (xs.l ++ ys.l); rw [e1', List.nil_append]; exact hr'⟩
    · have e1' : ys.l = [] := List.eq_nil_of_length_eq_zero (by rw [← hr'.len, e]; rfl)
      exact q _ S2 H2 (e1.trans e2) k2 ⟨p, vs, rfl, hp, by show RepL K S2 vs (xs.l ++ ys.l); rw [e1', List.append_nil]; exact hr⟩
    · have e5 := same_new (o := .tup (vs ++ vs')) (k2.free hl).1
      exact q _ _ _ ((e1.trans e2).trans e5) (k2.new hl) ⟨l, _, rfl, SqT.of upd_same, (hr.app hr').mono e5⟩
/-! names set side by side -/
theorem q_par {x : α} {y : β} (ha : EvX K ta G x G1) (hb : EvX K tb G1 y G2) (hi : G2[i]?.isSome = true) (hj : (G2.set i (.im x))[j]?.isSome = true) (k : ∀ a b, a = x → b = y → At K B S0 (u E) ((G2.set i (.im a)).set j (.im b))) : At K B S0 (tSeq (tPar i j (tCons ta (tCons tb tNil))) u E) G := fun S σ H F kn =>
  ha B S0 S σ H F kn _ fun v S1 H1 e1 k1 r1 => hb B S0 S1 σ H1 F k1 _ fun w S2 H2 e2 k2 r2 => ⟨v, w, rfl, k x y rfl rfl S2 _ H2 F ((k2.set (Py.mono e2 r1) hi).set r2 hj)⟩
theorem q_par3 {x : α} {y : β} {z : γ} (ha : EvX K ta G x G1) (hb : EvX K tb G1 y G2) (hc : EvX K tc G2 z G3) (hi : G3[i]?.isSome = true) (hj : (G3.set i (.im x))[j]?.isSome = true) (hl : ((G3.set i (.im x)).set j (.im y))[l]?.isSome = true) (k : ∀ a b c, a = x → b = y → c = z → At K B S0 (u E) (((G3.set i (.im a)).set j (.im b)).set l (.im c))) :
    At K B S0 (tSeq (tPar3 i j l (tCons ta (tCons tb (tCons tc tNil)))) u E) G := fun S σ H F kn =>
  ha B S0 S σ H F kn _ fun v S1 H1 e1 k1 r1 => hb B S0 S1 σ H1 F k1 _ fun w S2 H2 e2 k2 r2 => hc B S0 S2 σ H2 F k2 _ fun z' S3 H3 e3 k3 r3 => ⟨v, w, z', rfl, k x y z rfl rfl rfl S3 _ H3 F (((k3.set (Py.mono (e2.trans e3) r1) hi).set (Py.mono e3 r2) hj).set r3 hl)⟩
end
/-! rows -/
variable {r : WRow}
theorem ev_row0 (ha : EvX K ta G r G1) : EvX K (tOp (rIxT K) ta (tC (.int 0))) G r.word G1 := fun B S0 S σ H F k Q q =>
  ha B S0 S σ H F k _ fun v S1 H1 e1 k1 r1 => by
    obtain ⟨p, rfl, hp⟩ := r1
    exact ⟨p, _, 0, .str r.word, rfl, rfl, seqT k1.sub hp, atI_nat (j := 0) rfl, q _ S1 H1 e1 k1 rfl⟩
theorem ev_row1 (ha : EvX K ta G r G1) (h : 0 < r.nums.length) : EvX K (tOp (rIxT K) ta (tC (.int 1))) G r.a1 G1 := fun B S0 S σ H F k Q q =>
  ha B S0 S σ H F k _ fun v S1 H1 e1 k1 r1 => by
    obtain ⟨p, rfl, hp⟩ := r1
    refine ⟨p, _, 1, .int r.a1, rfl, rfl, seqT k1.sub hp, atI_nat (j := 1) ?_, q _ S1 H1 e1 k1 rfl⟩
    cases r <;> first | rfl | exact absurd h (by simp [WRow.nums])
theorem ev_row2 (ha : EvX K ta G r G1) (h : 1 < r.nums.length) : EvX K (tOp (rIxT K) ta (tC (.int 2))) G r.a2 G1 := fun B S0 S σ H F k Q q =>
  ha B S0 S σ H F k _ fun v S1 H1 e1 k1 r1 => by
    obtain ⟨p, rfl, hp⟩ := r1
    refine ⟨p, _, 2, .int r.a2, rfl, rfl, seqT k1.sub hp, atI_nat (j := 2) ?_, q _ S1 H1 e1 k1 rfl⟩
    cases r <;> first | rfl | exact absurd h (by simp [WRow.nums])
/-- row[1:] -/
theorem ev_rowTl (ha : EvX K ta G r G) : EvX K (tSl (rSlA K) ta (tPart (tC (.int 1))) tNoPart) G (Tp.mk r.nums) G := fun B S0 S σ H F k Q q =>
  ha B S0 S σ H F k _ fun v S1 H1 e1 k1 r1 => by
    obtain ⟨p, rfl, hp⟩ := r1
    have hv : r.vals.length = r.nums.length + 1 := by unfold WRow.vals; rw [List.length_cons, List.length_map]
    have h1 : HT.sIx r.vals.length 0 (some 1) = 1 := by
      rw [show (1 : Int) = ((1 : Nat) : Int) from rfl, HT.sIx_nat, hv]
      omega
    refine ⟨1, rfl, p, _, rfl, seqT k1.sub hp, fun hw => ?_, fun _ l hl => ?_⟩
    · rw [h1] at hw
      exact absurd hw.1 (by decide)
    · have e5 := same_new (o := .tup (cutV r.vals (some 1) none)) (k1.free hl).1
      refine q _ _ _ (e1.trans e5) (k1.new hl) ⟨l, _, rfl, SqT.of upd_same, ?_⟩
      have ec : cutV r.vals (some 1) none = r.nums.map V.int := by
        unfold cutV
        rw [h1, HT.sIx_none]
        unfold WRow.vals
        rw [List.drop_succ_cons, List.drop_zero, List.take_of_length_le (by simp)]
      rw [ec]
      exact RepL.of_ints _
theorem ev_sortSetT {xs : Tp Int} (h : EvX K ta G xs G1) (hz : xs.l.length < 64) : EvL K (tSortSetT K ta) G (usrt xs.l) G1 := fun B S0 S σ H F k Q q =>
  h B S0 S σ H F k _ fun v S1 H1 e1 k1 r1 => by
    obtain ⟨p, vs, rfl, hp, hr⟩ := r1
    rw [hr.ints] at hp
    refine ⟨p, xs.l, rfl, seqT k1.sub hp, hz, fun ms l h1 h2 hl => ?_⟩
    have e : ms = usrt xs.l := usrt_eq h1 h2
    subst e
    obtain ⟨a, b, c⟩ := k1.free hl
    exact q l _ S1 _ e1 (k1.raw hl) a b c upd_same (RepL.of_ints _)
/-- rows told -/
theorem ev_mkrow2 {w : Str} {x y : Int} (r : WRow) (ha : EvX K ta G x G1) (hb : EvX K tb G1 y G2) (hr : r.vals = [.str w, .int x, .int y]) : EvX K (tTup (tCons (tC (.str w)) (tCons ta (tCons tb tNil)))) G r G2 := fun B S0 S σ H F k Q q =>
  ha B S0 S σ H F k _ fun v S1 H1 e1 k1 r1 => hb B S0 S1 σ H1 F k1 _ fun v2 S2 H2 e2 k2 r2 => ⟨by show 3 ≤ sizeLine; decide, fun p hp => by
    rw [show v = .int x from r1, show v2 = .int y from r2, ← hr]
    exact q (.ref p) _ _ ((e1.trans e2).trans (same_new (k2.free hp).1)) (k2.new hp) ⟨p, rfl, SqT.of upd_same⟩⟩
theorem ev_mkrow1 {w : Str} {x : Int} (r : WRow) (ha : EvX K ta G x G1) (hr : r.vals = [.str w, .int x]) : EvX K (tTup (tCons (tC (.str w)) (tCons ta tNil))) G r G1 := fun B S0 S σ H F k Q q =>
  ha B S0 S σ H F k _ fun v S1 H1 e1 k1 r1 => ⟨by show 2 ≤ sizeLine; decide, fun p hp => by
    rw [show v = .int x from r1, ← hr]
    exact q (.ref p) _ _ (e1.trans (same_new (k1.free hp).1)) (k1.new hp) ⟨p, rfl, SqT.of upd_same⟩⟩
theorem ev_mkrow0 {w : Str} (r : WRow) (hr : r.vals = [.str w]) : EvX K (tTup (tCons (tC (.str w)) tNil)) G r G := fun B S0 S σ H F k Q q => ⟨by show 1 ≤ sizeLine; decide, fun p hp => by
    rw [← hr]
    exact q (.ref p) _ _ (same_new (k.free hp).1) (k.new hp) ⟨p, rfl, SqT.of upd_same⟩⟩
theorem dp_ints {K : Fg} {H : Hp} : ∀ xs : List Int, DpAll K H (xs.map V.int) (xs.map PyData.int)
  | [] => .nil
  | _ :: xs => .cons (.int _) (dp_ints xs)
theorem row_word (r : WRow) : (PyData.str r.word).canLay0 = true := by
  cases r with
  | set p v => show (PyData.str (Str.ofString "set")).canLay0 = true; decide +kernel
  | add p v => show (PyData.str (Str.ofString "add")).canLay0 = true; decide +kernel
  | jump p v => show (PyData.str (Str.ofString "jump")).canLay0 = true; decide +kernel
  | say p => show (PyData.str (Str.ofString "say")).canLay0 = true; decide +kernel
  | take p => show (PyData.str (Str.ofString "take")).canLay0 = true; decide +kernel
  | fin => show (PyData.str (Str.ofString "end")).canLay0 = true; decide +kernel
theorem row_shaped (r : WRow) : SeqAt.shaped r.dat = true := by
  have h := row_word r
  unfold SeqAt.shaped WRow.dat
  rw [PyData.canLay0, PyData.canLayAll0, h]
  cases r <;> simp [WRow.nums, PyData.canLay0, PyData.canLayAll0, PyData.depth, PyData.depthAll]
theorem row_dp {v : V} (e : Same S H) (h : Py.rep K S v r) : Dp K H v r.dat := by
  obtain ⟨p, h1, h2⟩ := h
  rw [h1]
  exact .tup (seqT e h2) (.cons (.str _) (dp_ints _))
theorem row_eqv (r : WRow) : PyData.eqv r.dat WRow.fin.dat = decide (r = .fin) := by
  cases r <;> simp [WRow.dat, WRow.word, WRow.nums, PyData.eqv, PyData.eqvAll]
theorem ev_rowEnd (ha : EvX K ta G r G1) (hb : EvX K tb G1 WRow.fin G2) : EvX K (tOp (rEqD K) ta tb) G (decide (r = .fin)) G2 := fun B S0 S σ H F k Q q =>
  ha B S0 S σ H F k _ fun v S1 H1 e1 k1 r1 => hb B S0 S1 σ H1 F k1 _ fun w S2 H2 e2 k2 r2 =>
    ⟨_, _, row_dp k2.sub (Py.mono e2 r1), row_dp k2.sub r2, row_shaped r, row_shaped _, q _ S2 H2 (e1.trans e2) k2 (by rw [row_eqv]; rfl)⟩
/-! words in a tuple of words -/
theorem inV_strs (x : Str) : ∀ xs : List Str, inV (.str x) (xs.map V.str) = decide (x ∈ xs)
  | [] => rfl
  | y :: ys => by
    have ih := inV_strs x ys
    unfold inV at ih ⊢
    rw [List.map_cons, List.any_cons, ih]
    by_cases e : y = x
    · subst e
      simp [eqV]
    · have : ¬ x = y := fun z => e z.symm
      simp [eqV, e, this]
theorem RepL.strs {K : Fg} {S : Hp} : ∀ {vs : List V} {xs : List Str}, RepL K S vs xs → vs = xs.map V.str
  | [], [], _ => rfl
  | _ :: _, _ :: _, h => by
    rw [List.map_cons, ← RepL.strs h.2, show _ = V.str _ from h.1]
  | [], _ :: _, h => h.elim
  | _ :: _, [], h => h.elim
theorem flat_strs : ∀ xs : List Str, (xs.map V.str).all flatV = true
  | [] => rfl
  | _ :: xs => by rw [List.map_cons, List.all_cons, flat_strs xs]; rfl
theorem ev_inTs {x : Str} {xs : Tp Str} (ha : EvX K ta G x G) (hb : EvX K tb G xs G) : EvX K (tOp (rIn K false) ta tb) G (decide (x ∈ xs.l)) G := fun B S0 S σ H F k Q q =>
  ha B S0 S σ H F k _ fun v S1 H1 e1 k1 r1 => hb B S0 S1 σ H1 F k1 _ fun w S2 H2 e2 k2 r2 => by
    obtain ⟨p, vs, rfl, hp, hr⟩ := r2
    rw [hr.strs] at hp
    rw [show v = .str x from r1]
    exact ⟨p, _, rfl, .inr (seqT k2.sub hp), rfl, flat_strs _, q _ S2 H2 (e1.trans e2) k2 (by rw [inV_strs]; rfl)⟩
/-! a call that reads an owned list -/
theorem Kn.relLat {δ : Type} [Py δ] {d : List δ} {p : Addr} {us : List V} (k : Kn K B S0 S σ H F G) (h : G[i]? = some (.ow d)) (hv : σ[i]? = some (some (.ref p))) (hp : F i = [p]) (h1 : H p = some (.lst us)) (h2 : RepL K S us d) : Kn K B S0 (upd S p (.lst us)) σ H (upF F i []) (G.set i (.im d)) := by
  obtain ⟨hs, hb, _⟩ := k.off i p (by rw [hp]; exact List.mem_singleton.mpr rfl)
  have k1 : Kn K B S0 S σ H (upF F i []) (G.set i .no) := by
    refine ⟨k.s0, k.sub, k.keep, k.clean, fun j q hq => ?_, fun a b q ha hb' => ?_, by rw [List.length_set]; exact k.len, fun j s e => ?_⟩
    · by_cases e : j = i
      · rw [e, upF_self] at hq
        cases hq
      · rw [upF_ne e] at hq
        exact k.off j q hq
    · by_cases ea : a = i
      · rw [ea, upF_self] at ha
        cases ha
      · by_cases eb : b = i
        · rw [eb, upF_self] at hb'
          cases hb'
        · rw [upF_ne ea] at ha
          rw [upF_ne eb] at hb'
          exact k.dj a b q ha hb'
    · rcases set_get e with ⟨rfl, rfl⟩ | ⟨ne, e⟩
      · exact True.intro
      · rw [upF_ne ne]
        exact k.sl j s e
  have hf : ∀ j, p ∉ upF F i [] j := fun j hj => by
    by_cases e : j = i
    · rw [e, upF_self] at hj
      cases hj
    · rw [upF_ne e] at hj
      exact e (k.dj j i p hj (by rw [hp]; exact List.mem_singleton.mpr rfl))
  have k2 := k1.settle h1 hs hb hf
  have hl : i < G.length := (List.getElem?_eq_some_iff.mp h).1
  have k3 := k2.set (i := i) (v := .ref p) (x := d) ⟨p, us, rfl, upd_same, h2.mono (same_new hs)⟩ (by rw [List.getElem?_set_self hl]; rfl)
  have e1 : σ.set i (some (.ref p)) = σ := by
    apply List.ext_getElem?
    intro j
    by_cases e : i = j
    · subst e
      rw [List.getElem?_set_self (by rw [← k.len]; exact hl)]
      exact hv.symm
    · rw [List.getElem?_set_ne e]
  rw [e1, List.set_set] at k3
  exact k3
theorem ev_callBL {δ α β : Type} [Py δ] [PyA α] [Py β] [NoL β] {f : α → β} {pre : α → Prop} {a : α} {t : TA} {E : XK} {d : List δ} (hi : G[i]? = some (.ow d)) (ha : EvV K t (G.set i (.im d)) a) (hp : pre a) : EvX K (tCall (spF K f pre) [] E t) G (f a) G := fun B S0 S σ H F k Q q => by
  obtain ⟨v, hv, p, us, rfl, hF, h1, h2⟩ := k.ow hi
  obtain ⟨hs, hb, _⟩ := k.off i p (by rw [hF]; exact List.mem_singleton.mpr rfl)
  have k' := k.relLat hi hv hF h1 h2
  refine ha B S0 _ σ H _ k' _ fun vs r => ?_
  show spF K f pre (vs ++ []) H _ E
  rw [List.append_nil]
  refine ⟨upd S p (.lst us), a, k'.sub, r, hp, fun w S2 H2 g r2 => ?_⟩
  have gl := g.lent hs
  exact q w (del S2 p) H2 gl.s (k.grow gl) (NoL.go (g.s _ _ upd_same) r2)
end
end GL

/-! Tuples of four. -/
namespace GL
open PySem PySem.Spec PyProof.Rows L2
structure T4 (α β γ δ : Type) where
  a : α
  b : β
  c : γ
  d : δ
  deriving DecidableEq
section
variable {α β γ δ ε : Type} [Py α] [Py β] [Py γ] [Py δ] [Py ε]
instance : Py (T4 α β γ δ) := ⟨fun K S v x => ∃ p a b c d, v = .ref p ∧ SqT K S p [a, b, c, d] ∧ Py.rep K S a x.a ∧ Py.rep K S b x.b ∧ Py.rep K S c x.c ∧ Py.rep K S d x.d,
  fun z ⟨p, a, b, c, d, h1, h2, h3, h4, h5, h6⟩ => ⟨p, a, b, c, d, h1, seqT z h2, Py.mono z h3, Py.mono z h4, Py.mono z h5, Py.mono z h6⟩⟩
instance (priority := 500) [Dq α] [Dq β] [Dq γ] [Dq δ] : Dq (T4 α β γ δ) := ⟨fun x => .tuple [Dq.dat x.a, Dq.dat x.b, Dq.dat x.c, Dq.dat x.d], fun x => Dq.ok x.a ∧ Dq.ok x.b ∧ Dq.ok x.c ∧ Dq.ok x.d, fun e ⟨p, a, b, c, d, h1, h2, h3, h4, h5, h6⟩ => by rw [h1]; exact .tup (seqT e h2) (.cons (Dq.dp e h3) (.cons (Dq.dp e h4) (.cons (Dq.dp e h5) (.cons (Dq.dp e h6) .nil)))),
  fun x h => by simp [PyData.canLay0, PyData.canLayAll0, Dq.lay _ h.1, Dq.lay _ h.2.1, Dq.lay _ h.2.2.1, Dq.lay _ h.2.2.2], max (Dq.dep α) (max (Dq.dep β) (max (Dq.dep γ) (Dq.dep δ))) + 1, fun x => by
    have h1 := Dq.dle x.a
    have h2 := Dq.dle x.b
    have h3 := Dq.dle x.c
    have h4 := Dq.dle x.d
    simp only [PyData.depth, PyData.depthAll]
    omega, fun x y => by
    simp only [PyData.eqv, PyData.eqvAll, Bool.and_eq_true, Dq.eq, and_true]
    cases x; cases y
    simp⟩
variable {K : Fg} {G G1 G2 G3 G4 : List Sl} {ta tb tc td : TE}
theorem ev_t4 {x : α} {y : β} {z : γ} {w : δ} (ha : EvX K ta G x G1) (hb : EvX K tb G1 y G2) (hc : EvX K tc G2 z G3) (hd : EvX K td G3 w G4) : EvX K (tTup (tCons ta (tCons tb (tCons tc (tCons td tNil))))) G (T4.mk x y z w) G4 := fun B S0 S σ H F k Q q =>
  ha B S0 S σ H F k _ fun v1 S1 H1 e1 k1 r1 => hb B S0 S1 σ H1 F k1 _ fun v2 S2 H2 e2 k2 r2 => hc B S0 S2 σ H2 F k2 _ fun v3 S3 H3 e3 k3 r3 => hd B S0 S3 σ H3 F k3 _ fun v4 S4 H4 e4 k4 r4 => ⟨by show 4 ≤ sizeLine; decide, fun p hp => by
    have e6 := same_new (o := .tup [v1, v2, v3, v4]) (k4.free hp).1
    exact q (.ref p) _ _ ((((e1.trans e2).trans e3).trans e4).trans e6) (k4.new hp) ⟨p, v1, v2, v3, v4, rfl, SqT.of upd_same, Py.mono (((e2.trans e3).trans e4).trans e6) r1, Py.mono ((e3.trans e4).trans e6) r2, Py.mono (e4.trans e6) r3, Py.mono e6 r4⟩⟩
theorem ev_ninT {tb : TE} {x : Int} {xs : Tp Int} (ha : EvX K ta G x G) (hb : EvX K tb G xs G) : EvX K (tOp (rIn K true) ta tb) G (!decide (x ∈ xs.l)) G := fun B S0 S σ H F k Q q =>
  ha B S0 S σ H F k _ fun v S1 H1 e1 k1 r1 => hb B S0 S1 σ H1 F k1 _ fun w S2 H2 e2 k2 r2 => by
    obtain ⟨p, vs, rfl, hp, hr⟩ := r2
    rw [hr.ints] at hp
    rw [show v = .int x from r1]
    exact ⟨p, _, rfl, .inr (seqT k2.sub hp), rfl, flat_ints _, q _ S2 H2 (e1.trans e2) k2 (by rw [inV_ints]; rfl)⟩
/-- x[1:], x of five -/
theorem ev_tl5 {x : T5 α β γ δ ε} (ha : EvX K ta G x G) : EvX K (tSl (rSlA K) ta (tPart (tC (.int 1))) tNoPart) G (T4.mk x.b x.c x.d x.e) G := fun B S0 S σ H F k Q q =>
  ha B S0 S σ H F k _ fun v S1 H1 e1 k1 r1 => by
    obtain ⟨p, a, b, c, d, e, rfl, hp, h1, h2, h3, h4, h5⟩ := r1
    refine ⟨1, rfl, p, _, rfl, seqT k1.sub hp, fun hw => absurd (show HT.sIx 5 0 (some 1) = 0 from hw.1) (by decide), fun _ l hl => ?_⟩
    have e6 := same_new (o := .tup [b, c, d, e]) (k1.free hl).1
    exact q _ _ _ (e1.trans e6) (k1.new hl) ⟨l, b, c, d, e, rfl, .inl (.inl (by simp [upd])), Py.mono e6 h2, Py.mono e6 h3, Py.mono e6 h4, Py.mono e6 h5⟩
end
section
variable {K : Fg} {G G1 G2 : List Sl} {ta tb : TE}
theorem ev_lastC {α : Type} [Py α] [Inhabited α] {xs : List α} (ha : EvC K ta G xs G) (hb : EvX K tb G (-1) G) (h : 0 < xs.length) : EvX K (tOp (rIxL K) ta tb) G (lastI xs) G := fun B S0 S σ H F k Q q =>
  ha B S0 S σ H F k _ fun v S1 H1 e1 k1 r1 => hb B S0 S1 σ H1 F k1 _ fun u S2 H2 e2 k2 r2 => by
    obtain ⟨p, vs, rfl, hp, hr⟩ := (r1.mono e2).at k2
    obtain ⟨w, h1, h2⟩ := hr.get (ix_at (xs := xs) (i := (xs.length : Int) - 1) (by omega) (by omega))
    have hl := hr.len
    have e : atI vs (-1) = some w := by
      obtain ⟨init, last, rfl⟩ : ∃ init last, vs = init ++ [last] := by
        rcases List.eq_nil_or_concat vs with q | ⟨i, l, q⟩
        · rw [q] at hl; simp at hl; omega
        · exact ⟨i, l, by rw [q]; simp⟩
      rw [List.length_append, List.length_singleton] at hl
      rw [show ((xs.length : Int) - 1).toNat = init.length by omega, List.getElem?_append_right (Nat.le_refl _), Nat.sub_self] at h1
      have e1 : last = w := Option.some.inj h1
      rw [← e1]
      exact atI_last init last
    exact ⟨p, vs, -1, w, rfl, r2, SqL.of hp, e, q w S2 H2 (e1.trans e2) k2 h2⟩
end
end GL

namespace GL
open PySem PySem.Spec PyProof.Rows L2
/-! ### dicts -/
namespace Dct
variable {α : Type}
theorem get?_emp (k : Int) : (emp : Dct α).get? k = none := rfl
theorem find_map (k : Int) (x : α) (j : Int) : ∀ l : List (Int × α), ((l.map fun kv => if kv.1 = k then (kv.1, x) else kv).find? fun kv => decide (kv.1 = j)).map (·.2) = ((l.find? fun kv => decide (kv.1 = j)).map (·.2)).map fun y => if j = k then x else y
  | [] => rfl
  | p :: l => by
    rw [List.map_cons, List.find?_cons, List.find?_cons]
    by_cases h1 : p.1 = j
    · by_cases h2 : p.1 = k
      · have : j = k := h1.symm.trans h2
        subst this
        simp [h1]
      · have : ¬ j = k := fun e => h2 (h1.trans e)
        simp [h1, this]
    · have ih := find_map k x j l
      by_cases h2 : p.1 = k
      · simp only [h2, if_true]
        have h3 : ¬ k = j := fun e => h1 (h2.trans e)
        simp only [decide_eq_false h3]
        exact ih
      · simp only [h2, if_false, decide_eq_false h1]
        exact ih
theorem any_find (k : Int) : ∀ l : List (Int × α), (l.any fun kv => decide (kv.1 = k)) = ((l.find? fun kv => decide (kv.1 = k)).map (·.2)).isSome
  | [] => rfl
  | p :: l => by
    rw [List.any_cons, List.find?_cons, any_find k l]
    by_cases h : p.1 = k
    · simp [h]
    · simp [h]
theorem find_snoc (k : Int) (x : α) (j : Int) : ∀ l : List (Int × α), ((l ++ [(k, x)]).find? fun kv => decide (kv.1 = j)).map (·.2) = match (l.find? fun kv => decide (kv.1 = j)).map (·.2) with | some y => some y | none => if j = k then some x else none
  | [] => by
    by_cases h : k = j
    · subst h; simp
    · have : ¬ j = k := fun e => h e.symm
      simp [h, this]
  | p :: l => by
    rw [List.cons_append, List.find?_cons, List.find?_cons]
    by_cases h : p.1 = j
    · simp [h]
    · simp only [decide_eq_false h]
      exact find_snoc k x j l
theorem get?_put (d : Dct α) (k : Int) (x : α) (j : Int) : (d.put k x).get? j = if j = k then some x else d.get? j := by
  unfold get? put
  by_cases h : (d.l.any fun kv => decide (kv.1 = k)) = true
  · simp only [h, if_true]
    rw [find_map]
    by_cases e : j = k
    · subst e
      rw [any_find] at h
      cases q : (d.l.find? fun kv => decide (kv.1 = j)).map (·.2) with
      | none => rw [q] at h; cases h
      | some y => simp
    · simp only [e, if_false]
      cases (d.l.find? fun kv => decide (kv.1 = j)).map (·.2) <;> rfl
  · simp only [h, if_false, Bool.false_eq_true]
    rw [find_snoc]
    by_cases e : j = k
    · subst e
      rw [any_find] at h
      cases q : (d.l.find? fun kv => decide (kv.1 = j)).map (·.2) with
      | none => simp
      | some y => rw [q] at h; exact absurd rfl h
    · simp only [e, if_false]
      cases (d.l.find? fun kv => decide (kv.1 = j)).map (·.2) <;> rfl
theorem get?_del (d : Dct α) (k j : Int) : (d.del k).get? j = if j = k then none else d.get? j := by
  unfold get? del
  show ((d.l.filter fun kv => decide (kv.1 ≠ k)).find? fun kv => decide (kv.1 = j)).map (·.2) = _
  induction d.l with
  | nil => simp
  | cons p l ih =>
    rw [List.filter_cons]
    by_cases h : p.1 = k
    · rw [if_neg (by simp [h]), ih, List.find?_cons]
      by_cases e : j = k
      · simp [e]
      · have : ¬ p.1 = j := fun q => e (q.symm.trans h)
        simp [e, this]
    · rw [if_pos (by simp [h]), List.find?_cons, List.find?_cons]
      by_cases e : p.1 = j
      · have : ¬ j = k := fun q => h (e.trans q)
        simp [e, this]
      · simp only [decide_eq_false e]
        exact ih
/-- the keys differ and lie below m -/
def Ok (d : Dct α) (m : Int) : Prop := (d.l.map (·.1)).Nodup ∧ ∀ k ∈ d.l.map (·.1), 0 ≤ k ∧ k < m
theorem Ok.emp {m : Int} : Ok (emp : Dct α) m := ⟨List.nodup_nil, fun _ h => by simp [Dct.emp] at h⟩
theorem keys_put (d : Dct α) (k : Int) (x : α) : (d.put k x).l.map (·.1) = if (d.l.any fun kv => decide (kv.1 = k)) = true then d.l.map (·.1) else d.l.map (·.1) ++ [k] := by
  unfold put
  by_cases h : (d.l.any fun kv => decide (kv.1 = k)) = true
  · simp only [h, if_true]
    rw [List.map_map]
    apply List.map_congr_left
    intro p _
    show (if p.1 = k then (p.1, x) else p).1 = p.1
    split <;> rfl
  · simp only [h, if_false, Bool.false_eq_true]
    rw [List.map_append]
    rfl
theorem Ok.put {d : Dct α} {m : Int} (h : d.Ok m) {k : Int} (x : α) (hk : 0 ≤ k ∧ k < m) : (d.put k x).Ok m := by
  unfold Ok
  rw [keys_put]
  by_cases q : (d.l.any fun kv => decide (kv.1 = k)) = true
  · rw [if_pos q]
    exact h
  · rw [if_neg q]
    refine ⟨?_, fun j hj => ?_⟩
    · refine L2.nd_snoc h.1 fun hm => q ?_
      obtain ⟨p, hp, e⟩ := List.mem_map.mp hm
      exact List.any_eq_true.mpr ⟨p, hp, decide_eq_true e⟩
    · rcases List.mem_append.mp hj with z | z
      · exact h.2 j z
      · rw [List.mem_singleton.mp z]
        exact hk
theorem Ok.del {d : Dct α} {m : Int} (h : d.Ok m) (k : Int) : (d.del k).Ok m := by
  refine ⟨?_, fun j hj => ?_⟩
  · show ((d.l.filter fun kv => decide (kv.1 ≠ k)).map (·.1)).Nodup
    exact (List.Sublist.map _ (List.filter_sublist)).nodup h.1
  · obtain ⟨p, hp, e⟩ := List.mem_map.mp hj
    exact h.2 j (List.mem_map.mpr ⟨p, (List.mem_filter.mp hp).1, e⟩)
theorem nodup_le : ∀ (n : Nat) (l : List Int), l.Nodup → (∀ k ∈ l, 0 ≤ k ∧ k < (n : Int)) → l.length ≤ n
  | 0, l, _, h => by
    cases l with
    | nil => exact Nat.le_refl _
    | cons x l => exact absurd (h x List.mem_cons_self) (by omega)
  | n + 1, l, hn, h => by
    have h1 := nodup_le n (l.filter fun k => decide (k ≠ (n : Int))) (List.filter_sublist.nodup hn) fun k hk => by
      obtain ⟨a, b⟩ := List.mem_filter.mp hk
      have := h k a
      have : k ≠ (n : Int) := of_decide_eq_true b
      omega
    have h2 : l.length ≤ (l.filter fun k => decide (k ≠ (n : Int))).length + 1 := by
      clear h h1
      induction l with
      | nil => exact Nat.zero_le _
      | cons x l ih =>
        obtain ⟨q1, q2⟩ := List.nodup_cons.mp hn
        rw [List.filter_cons]
        by_cases e : x = (n : Int)
        · rw [if_neg (by simp [e])]
          have : l.filter (fun k => decide (k ≠ (n : Int))) = l := by
            apply List.filter_eq_self.mpr
            intro k hk
            exact decide_eq_true fun z => q1 (e.trans z.symm ▸ hk)
          rw [this, List.length_cons]
          exact Nat.le_refl _
        · rw [if_pos (by simp [e]), List.length_cons, List.length_cons]
          have := ih q2
          omega
    omega
theorem Ok.len {d : Dct α} {n : Nat} (h : d.Ok (n : Int)) : d.l.length ≤ n := by
  have := nodup_le n (d.l.map (·.1)) h.1 h.2
  rw [List.length_map] at this
  exact this
theorem Ok.small {d : Dct α} (h : d.Ok 1000) : d.l.length < sizeLine := Nat.lt_of_le_of_lt (Ok.len (n := 1000) h) (by decide)
end Dct
theorem dix_put {α : Type} [Inhabited α] (d : Dct α) (k : Int) (x : α) (j : Int) : dix (d.put k x) j = if j = k then x else dix d j := by
  unfold dix
  rw [Dct.get?_put]
  split <;> rfl
theorem dix_of {α : Type} [Inhabited α] {d : Dct α} {k : Int} {x : α} (h : d.get? k = some x) : dix d k = x := by
  unfold dix
  rw [h]
  rfl
/-! ### ranges -/
theorem mem_rng {a b x : Int} : x ∈ rng a b ↔ a ≤ x ∧ x < b := by
  unfold rng
  rw [List.mem_map]
  constructor
  · rintro ⟨i, hi, rfl⟩
    rw [List.mem_range] at hi
    omega
  · intro h
    refine ⟨(x - a).toNat, List.mem_range.mpr (by omega), by omega⟩
theorem len_rng (a b : Int) : (rng a b).length = (b - a).toNat := by
  unfold rng
  rw [List.length_map, List.length_range]
theorem rng_get {a b : Int} {i : Nat} (h : i < (b - a).toNat) : (rng a b)[i]? = some (a + (i : Int)) := by
  unfold rng
  rw [List.getElem?_map, List.getElem?_range h]
  rfl
theorem rng_succ {a b : Int} (h : a ≤ b) : rng a (b + 1) = rng a b ++ [b] := by
  unfold rng
  rw [show (b + 1 - a).toNat = (b - a).toNat + 1 by omega, List.range_succ, List.map_append]
  congr 1
  rw [List.map_cons, List.map_nil]
  congr 1
  omega
theorem rng_nil {a b : Int} (h : b ≤ a) : rng a b = [] := by
  unfold rng
  rw [show (b - a).toNat = 0 by omega]
  rfl
theorem rng_sorted (a b : Int) : (rng a b).Pairwise (· < ·) := by
  unfold rng
  rw [List.pairwise_map]
  exact List.pairwise_lt_range.imp fun h => by omega
theorem rng_nodup (a b : Int) : (rng a b).Nodup := by
  have h := (rng_sorted a b)
  exact h.imp fun q => by omega
theorem rng_pre {a b x : Int} {pre post : List Int} (h : pre ++ x :: post = rng a b) : pre = rng a x ∧ x = a + pre.length ∧ a ≤ x ∧ x < b := by
  have hx : (rng a b)[pre.length]? = some x := by
    rw [← h, List.getElem?_append_right (Nat.le_refl _), Nat.sub_self]
    rfl
  have hl : pre.length < (b - a).toNat := by
    have := congrArg List.length h
    rw [List.length_append, List.length_cons, len_rng] at this
    omega
  rw [rng_get hl] at hx
  have ex : a + (pre.length : Int) = x := Option.some.inj hx
  refine ⟨?_, ex.symm, by omega, by omega⟩
  apply List.ext_getElem?
  intro i
  by_cases hi : i < pre.length
  · have : (rng a b)[i]? = pre[i]? := by rw [← h, List.getElem?_append_left hi]
    rw [← this, rng_get (by omega), rng_get (by omega)]
  · rw [List.getElem?_eq_none (by omega), List.getElem?_eq_none (by rw [len_rng]; omega)]
theorem enumI_nil {α : Type} : enumI ([] : List α) = [] := rfl
theorem enumI_snoc {α : Type} (xs : List α) (x : α) : enumI (xs ++ [x]) = enumI xs ++ [((xs.length : Int), x)] := by
  unfold enumI
  rw [List.zipIdx_append, List.map_append]
  simp
theorem mem_enumI {α : Type} {xs : List α} {p : Int × α} : p ∈ enumI xs ↔ 0 ≤ p.1 ∧ xs[p.1.toNat]? = some p.2 := by
  unfold enumI
  rw [List.mem_map]
  constructor
  · rintro ⟨q, hq, rfl⟩
    have h := List.mem_zipIdx_iff_getElem?.mp hq
    exact ⟨by simp, by simpa using h⟩
  · rintro ⟨h0, h⟩
    refine ⟨(p.2, p.1.toNat), List.mem_zipIdx_iff_getElem?.mpr (by simpa using h), ?_⟩
    apply Prod.ext
    · show ((p.1.toNat : Nat) : Int) = p.1
      omega
    · rfl
theorem len_enumI {α : Type} (xs : List α) : (enumI xs).length = xs.length := by
  unfold enumI
  rw [List.length_map, List.length_zipIdx]
/-! ### traces -/
instance : Inhabited (Tp Int) := ⟨⟨[]⟩⟩
structure TrOk (trace : List (Tp Int)) : Prop where
  len : trace.length ≤ 100000
  mem : ∀ t ∈ trace, ∀ s ∈ t.l, 0 ≤ s ∧ s < 1000
theorem ix_mem {α : Type} [Inhabited α] {xs : List α} {i : Int} (h0 : 0 ≤ i) (h : i < xs.length) : ix xs i ∈ xs := List.mem_of_getElem? (ix_at h0 h)
def writtenStep (trace : List (Tp Int)) (found : Dct Int) (tick : Int) : Dct Int := (ix trace tick).l.foldl (fun f x => f.put x tick) found
def writtenIn (trace : List (Tp Int)) (start stop : Int) : Dct Int := (rng start (min stop trace.length)).foldl (writtenStep trace) Dct.emp
theorem put_ok {l : List Int} {tick m : Int} : ∀ {d : Dct Int}, d.Ok m → (∀ s ∈ l, 0 ≤ s ∧ s < m) → (l.foldl (fun f x => f.put x tick) d).Ok m := by
  induction l with
  | nil => intro d h _; exact h
  | cons x l ih =>
    intro d h hl
    exact ih (h.put tick (hl x List.mem_cons_self)) fun s hs => hl s (List.mem_cons_of_mem _ hs)
theorem step_ok {trace : List (Tp Int)} (ht : TrOk trace) {l : List Int} : ∀ {d : Dct Int}, d.Ok 1000 → (∀ t ∈ l, 0 ≤ t ∧ t < trace.length) → (l.foldl (writtenStep trace) d).Ok 1000 := by
  induction l with
  | nil => intro d h _; exact h
  | cons x l ih =>
    intro d h hl
    obtain ⟨h0, h1⟩ := hl x List.mem_cons_self
    exact ih (put_ok h (ht.mem _ (ix_mem h0 h1))) fun s hs => hl s (List.mem_cons_of_mem _ hs)
theorem wr_size {trace : List (Tp Int)} {start stop tick sheet : Int} {pre0 post0 pre1 post1 : List Int} {found s0 s1 : Dct Int} (ht : TrOk trace) (h0 : 0 ≤ start) (hf : found = Dct.emp) (ex0 : pre0 ++ tick :: post0 = rng start (min stop trace.length)) (hs0 : s0 = pre0.foldl (writtenStep trace) found)
    (ex1 : pre1 ++ sheet :: post1 = (ix trace tick).l) (hs1 : s1 = pre1.foldl (fun f x => f.put x tick) s0) : s1.l.length < sizeLine := by
  obtain ⟨e1, _, a1, a2⟩ := rng_pre ex0
  subst hs1 hs0 hf
  refine (put_ok (step_ok ht Dct.Ok.emp fun t hm => ?_) fun s hs => ?_ : Dct.Ok _ 1000).small
  · rw [e1, mem_rng] at hm
    omega
  · exact ht.mem (ix trace tick) (ix_mem (by omega) (by omega)) s (by rw [← ex1]; exact List.mem_append_left _ hs)
theorem rng_at {trace : List (Tp Int)} {start stop tick : Int} {pre0 post0 : List Int} (h0 : 0 ≤ start) (ex0 : pre0 ++ tick :: post0 = rng start (min stop trace.length)) : 0 ≤ tick ∧ tick < trace.length := by
  obtain ⟨_, _, a1, a2⟩ := rng_pre ex0
  omega
/-- the last of the first n ticks at which s is written -/
def lastN (trace : List (Tp Int)) : Nat → Int → Option Int
  | 0, _ => none
  | n + 1, s => if s ∈ (trace.getD n ⟨[]⟩).l then some (n : Int) else lastN trace n s
theorem get?_puts (tick : Int) (s : Int) : ∀ (l : List Int) (d : Dct Int), (l.foldl (fun f x => f.put x tick) d).get? s = if s ∈ l then some tick else d.get? s
  | [], d => by simp
  | x :: l, d => by
    rw [List.foldl_cons, get?_puts tick s l, Dct.get?_put]
    by_cases h1 : s ∈ l
    · simp [h1]
    · by_cases h2 : s = x
      · simp [h2]
      · simp [h1, h2]
theorem lastN_more (trace : List (Tp Int)) (s : Int) : ∀ n, trace.length ≤ n → lastN trace n s = lastN trace trace.length s := by
  intro n h
  induction n with
  | zero => rw [show trace.length = 0 by omega]
  | succ n ih =>
    by_cases e : trace.length = n + 1
    · rw [e]
    · rw [lastN, if_neg, ih (by omega)]
      rw [List.getD_eq_getElem?_getD, List.getElem?_eq_none (by omega)]
      simp
theorem written_last (trace : List (Tp Int)) (s : Int) : ∀ n : Nat, n ≤ trace.length → ((rng 0 (n : Int)).foldl (writtenStep trace) Dct.emp).get? s = lastN trace n s
  | 0, _ => by rw [rng_nil (by omega)]; rfl
  | n + 1, h => by
    rw [show ((n + 1 : Nat) : Int) = (n : Int) + 1 by omega, rng_succ (by omega), List.foldl_append, List.foldl_cons, List.foldl_nil]
    show ((ix trace (n : Int)).l.foldl (fun (f : Dct Int) x => f.put x (n : Int)) _).get? s = _
    rw [get?_puts, written_last trace s n (by omega), lastN]
    have : ix trace (n : Int) = trace.getD n ⟨[]⟩ := by unfold ix; rfl
    rw [this]
theorem writtenIn_get (trace : List (Tp Int)) (stop s : Int) : (writtenIn trace 0 stop).get? s = lastN trace stop.toNat s := by
  unfold writtenIn
  by_cases h : stop < 0
  · rw [rng_nil (by omega), show stop.toNat = 0 by omega]
    rfl
  · by_cases h2 : stop ≤ trace.length
    · rw [Int.min_eq_left h2]
      have e : stop = ((stop.toNat : Nat) : Int) := by omega
      rw [e]
      rw [written_last trace s stop.toNat (by omega)]
      rfl
    · rw [Int.min_eq_right (by omega), written_last trace s trace.length (Nat.le_refl _), lastN_more trace s stop.toNat (by omega)]
theorem lastN_some {trace : List (Tp Int)} {s : Int} : ∀ {n : Nat} {t : Int}, lastN trace n s = some t → 0 ≤ t ∧ t < n ∧ s ∈ (trace.getD t.toNat ⟨[]⟩).l
  | 0, t, h => by cases h
  | n + 1, t, h => by
    rw [lastN] at h
    by_cases q : s ∈ (trace.getD n ⟨[]⟩).l
    · rw [if_pos q] at h
      cases h
      exact ⟨by omega, by omega, by simpa using q⟩
    · rw [if_neg q] at h
      obtain ⟨a, b, c⟩ := lastN_some h
      exact ⟨a, by omega, c⟩
end GL

namespace GL
open PySem PySem.Spec PyProof.Rows L2
/-! ### the laws' own helpers -/
theorem ix_all {α : Type} [Inhabited α] {P : α → Prop} {xs : List α} {i : Int} (h : ∀ y ∈ xs, P y) (hi : 0 ≤ i ∧ i < xs.length) : P (ix xs i) := h _ (ix_mem hi.1 hi.2)
theorem ix_2 {i a b : Int} (h : 0 ≤ i ∧ i < 2) : 0 ≤ i ∧ i < ([a, b] : List Int).length := h
theorem ix3 {i a b c : Int} (h : 0 ≤ i ∧ i < 3) : 0 ≤ i ∧ i < ([a, b, c] : List Int).length := h
theorem ix_4 {i a b c d : Int} (h : 0 ≤ i ∧ i < 4) : 0 ≤ i ∧ i < ([a, b, c, d] : List Int).length := h
theorem ix_5 {i a b c d e : Int} (h : 0 ≤ i ∧ i < 5) : 0 ≤ i ∧ i < ([a, b, c, d, e] : List Int).length := h
theorem ix_6 {i a b c d e f : Int} (h : 0 ≤ i ∧ i < 6) : 0 ≤ i ∧ i < ([a, b, c, d, e, f] : List Int).length := h
theorem ix_7 {i a b c d e f g : Int} (h : 0 ≤ i ∧ i < 7) : 0 ≤ i ∧ i < ([a, b, c, d, e, f, g] : List Int).length := h
structure SzOk (y : T3 Int Int Int) : Prop where
  n0 : 1 ≤ y.a
  n1 : y.a ≤ 12
  b0 : 1 ≤ y.b
  b1 : y.b ≤ 6
  s0 : 0 ≤ y.c
  s1 : y.c ≤ 12
theorem sz_i (z : Spr) : 4 ≤ ix ([4, 8, 12] : List Int) (lawCup z 3).1 ∧ ix ([4, 8, 12] : List Int) (lawCup z 3).1 ≤ 12 := ix_all (P := fun y => 4 ≤ y ∧ y ≤ 12) (by decide) (ix3 (cup_bd z (by decide)))
theorem sz_m {z : Spr} : 0 < ix ([4, 8, 12] : List Int) (lawCup z 3).1 ∧ ix ([4, 8, 12] : List Int) (lawCup z 3).1 < 1073741824 := by
  have := sz_i z
  omega
theorem sz_n {z : Spr} {n : Int} (h : n = 1 + (lawCup (lawCup z 3).2 (ix [4, 8, 12] (lawCup z 3).1)).1) : 1 ≤ n ∧ n ≤ 12 := by
  have h1 := sz_i z
  have h2 := cup_bd (lawCup z 3).2 (m := ix [4, 8, 12] (lawCup z 3).1) (by omega)
  omega
theorem sz_b {z : Spr} {b : Int} (h : b = ix [1, 1, 2, 3, 1 + (lawCup z 6).1] (lawCup (lawCup z 6).2 5).1) : 1 ≤ b ∧ b ≤ 6 := by
  have h1 := cup_bd z (m := 6) (by decide)
  rw [h]
  exact ix_all (P := fun y => 1 ≤ y ∧ y ≤ 6) (by simp; omega) (ix_5 (cup_bd _ (by decide)))
theorem sz_ok {z : Spr} {n b : Int} (hn : 1 ≤ n ∧ n ≤ 12) (hb : 1 ≤ b ∧ b ≤ 6) : SzOk ⟨n, b, ix [0, 0, 1, 2, 3, n, (lawCup z 13).1] (lawCup (lawCup z 13).2 7).1⟩ := by
  have h1 := cup_bd z (m := 13) (by decide)
  have h2 : 0 ≤ ix [0, 0, 1, 2, 3, n, (lawCup z 13).1] (lawCup (lawCup z 13).2 7).1 ∧ ix [0, 0, 1, 2, 3, n, (lawCup z 13).1] (lawCup (lawCup z 13).2 7).1 ≤ 12 :=
    ix_all (P := fun y => 0 ≤ y ∧ y ≤ 12) (by simp; omega) (ix_7 (cup_bd _ (by decide)))
  exact ⟨hn.1, hn.2, hb.1, hb.2, h2.1, h2.2⟩
structure RowOk (n : Int) (t : Tp Int) : Prop where
  up : t.l.Pairwise (· < ·)
  bd : ∀ s ∈ t.l, 0 ≤ s ∧ s < n
structure TrLaw (n most : Int) (tr : List (Tp Int)) : Prop where
  len : (tr.length : Int) ≤ most
  row : ∀ t ∈ tr, RowOk n t
theorem Dct.Ok.mono {α : Type} {d : Dct α} {m m' : Int} (h : d.Ok m) (hm : m ≤ m') : d.Ok m' := ⟨h.1, fun k hk => by have := h.2 k hk; omega⟩
theorem row_ok {n : Int} {d : Dct Bool} (h : d.Ok n) : RowOk n ⟨srt (d.l.map (·.1))⟩ := by
  have hp := srt_perm (d.l.map (·.1))
  refine ⟨?_, fun s hs => h.2 s (hp.mem_iff.mp hs)⟩
  have hn : (srt (d.l.map (·.1))).Nodup := hp.nodup_iff.mpr h.1
  have hs := srt_sorted (d.l.map (·.1))
  exact (hs.and hn).imp fun ⟨a, b⟩ => by omega
theorem tr_many {n : Int} {z : Spr} (n0 : 1 ≤ n) (n1 : n ≤ 12) : 0 ≤ ix [0, 0, 1, 1, 2, n] (lawCup z 6).1 ∧ ix [0, 0, 1, 1, 2, n] (lawCup z 6).1 ≤ 12 :=
  ix_all (P := fun y => 0 ≤ y ∧ y ≤ 12) (by simp; omega) (ix_6 (cup_bd _ (by decide)))
theorem tr_key {n sheet : Int} {often : List Int} {c : Bool} (hs : 0 ≤ sheet ∧ sheet < n) (ho : ∀ y ∈ often, 0 ≤ y ∧ y < n) (hl : 1 ≤ often.length) : 0 ≤ ix [sheet, ix often (sheet % (often.length : Int))] (if c = true then 1 else 0) ∧ ix [sheet, ix often (sheet % (often.length : Int))] (if c = true then 1 else 0) < n := by
  have h1 := ix_all (P := fun y => 0 ≤ y ∧ y < n) ho (i := sheet % (often.length : Int)) ⟨Int.emod_nonneg _ (by omega), Int.emod_lt_of_pos _ (by omega)⟩
  refine ix_all (P := fun y => 0 ≤ y ∧ y < n) (fun y hy => ?_) (ix_2 (by split <;> omega))
  rcases List.mem_cons.mp hy with e | e
  · rw [e]; exact hs
  · rw [List.mem_singleton.mp e]; exact h1
theorem TrLaw.ok {n most : Int} {tr : List (Tp Int)} (h : TrLaw n most tr) (hn : n ≤ 1000) (hm : most ≤ 100000) : TrOk tr := ⟨by have := h.len; omega, fun t ht s hs => by have := (h.row t ht).bd s hs; omega⟩
end GL

namespace GL
open PySem PySem.Spec PyProof.Rows L2
theorem pick_row {n : Int} {τ : Type} {f : τ → Int → Bool} {step : τ → Int → τ} {s : τ} : RowOk n ⟨(pickX f (fun x => x) step (rng 0 n) s).1⟩ := by
  obtain ⟨ys, h1, h2⟩ := pickX_sub f (fun x : Int => x) step (rng 0 n) s
  rw [h2]
  refine ⟨?_, fun x hx => ?_⟩
  · dsimp only
    rw [List.map_id']
    exact (rng_sorted 0 n).sublist h1
  · dsimp only at hx
    rw [List.map_id'] at hx
    exact mem_rng.mp (h1.subset hx)
theorem fold_fp {α : Type} (m : Int) : ∀ (xs : List α) (s : Pen), Anch.fp (xs.foldl (fun st (_ : α) => (penTake st m).2) s) = Anch.fp s
  | [], s => rfl
  | x :: xs, s => by rw [List.foldl_cons, fold_fp m xs, pen_fp]
def someM (z : Pen) (n most : Int) : Tp Int × Pen := (⟨(pickX (fun st (_ : Int) => decide ((penTake st n).1 < most)) (fun x => x) (fun st _ => (penTake st n).2) (rng 0 n) z).1⟩, (rng 0 n).foldl (fun st _ => (penTake st n).2) z)
theorem some_fp (z : Pen) (n most : Int) : Anch.fp (someM z n most).2 = Anch.fp z := fold_fp n _ z
theorem some_row (z : Pen) (n most : Int) : RowOk n (someM z n most).1 := pick_row
theorem all_snoc {δ : Type} {P : δ → Prop} {f : List δ} {x : δ} (h : ∀ t ∈ f, P t) (hx : P x) : ∀ t ∈ f ++ [x], P t := fun t ht => by
  rcases List.mem_append.mp ht with q | q
  · exact h t q
  · rw [List.mem_singleton.mp q]; exact hx
/-! ### what is needed first -/
abbrev Tch := List (Tp Int × Tp Int)
theorem RowOk.len9 {n : Int} {t : Tp Int} (h : RowOk n t) : t.l.length ≤ n.toNat := Dct.nodup_le n.toNat t.l (h.up.imp fun q => by omega) fun k hk => by have := h.bd k hk; omega
def TchOk (n : Int) (y : Tch) : Prop := ∀ t ∈ y, RowOk n t.1 ∧ RowOk n t.2
def wrD (d : Dct Bool) (ws : List Int) : Dct Bool := ws.foldl (fun f x => f.put x true) d
def ndNew (needed : List Int) (written : Dct Bool) (reads : List Int) : List Int := reads.filter fun x => !decide (x ∈ needed) && !(written.get? x).isSome
abbrev LlS := List Int × Dct Bool × Int × Option Int
def llStep (st : LlS) (it : Int × (Tp Int × Tp Int)) : LlS :=
  (st.1 ++ ndNew st.1 st.2.1 it.2.1.l, wrD st.2.1 it.2.2.l,
   if decide (st.2.2.1 < (((st.1 ++ ndNew st.1 st.2.1 it.2.1.l).length : Int) - it.1)) = true then ((st.1 ++ ndNew st.1 st.2.1 it.2.1.l).length : Int) - it.1 else st.2.2.1,
   if decide (st.2.2.1 < (((st.1 ++ ndNew st.1 st.2.1 it.2.1.l).length : Int) - it.1)) = true then some it.1 else st.2.2.2)
@[irreducible] def llM (n : Int) (y : Tch) : T3 (List Int) Int (Option Int) :=
  ⟨((enumI y).foldl llStep ([], Dct.emp, 0, none)).1 ++ (rng 0 n).filter (fun x => !decide (x ∈ ((enumI y).foldl llStep ([], Dct.emp, 0, none)).1)), ((enumI y).foldl llStep ([], Dct.emp, 0, none)).2.2.1, ((enumI y).foldl llStep ([], Dct.emp, 0, none)).2.2.2⟩
theorem wrD_ok {n : Int} (hn : n ≤ 1000) : ∀ {ws : List Int} {d : Dct Bool}, d.Ok 1000 → (∀ x ∈ ws, 0 ≤ x ∧ x < n) → (wrD d ws).Ok 1000
  | [], d, h, _ => h
  | x :: ws, d, h, hw => wrD_ok hn (ws := ws) (d := d.put x true) (h.put _ (by have := hw x List.mem_cons_self; omega)) fun y hy => hw y (List.mem_cons_of_mem _ hy)
theorem ll_ok {n : Int} (hn : n ≤ 1000) : ∀ (l : List (Int × (Tp Int × Tp Int))) (st : LlS), (∀ p ∈ l, RowOk n p.2.1 ∧ RowOk n p.2.2) → st.2.1.Ok 1000 → (l.foldl llStep st).2.1.Ok 1000 ∧ (l.foldl llStep st).1.length ≤ st.1.length + 1000 * l.length
  | [], st, _, h => ⟨h, Nat.le_refl _⟩
  | p :: l, st, hl, h => by
    rw [List.foldl_cons, List.length_cons]
    obtain ⟨h1, h2⟩ := hl p List.mem_cons_self
    have h3 : (llStep st p).2.1.Ok 1000 := wrD_ok hn h h2.bd
    obtain ⟨a1, a2⟩ := ll_ok hn l (llStep st p) (fun q hq => hl q (List.mem_cons_of_mem _ hq)) h3
    refine ⟨a1, ?_⟩
    have h4 : (llStep st p).1.length ≤ st.1.length + 1000 := by
      show (st.1 ++ ndNew st.1 st.2.1 p.2.1.l).length ≤ _
      rw [List.length_append]
      have := List.length_filter_le (fun x => !decide (x ∈ st.1) && !(st.2.1.get? x).isSome) p.2.1.l
      have := h1.len9
      unfold ndNew
      omega
    omega
theorem enum_tch {n : Int} {y : Tch} (h : TchOk n y) {pre : List (Int × (Tp Int × Tp Int))} (hp : ∀ p ∈ pre, p ∈ enumI y) : ∀ p ∈ pre, RowOk n p.2.1 ∧ RowOk n p.2.2 := fun p hq => h p.2 (List.mem_of_getElem? (mem_enumI.mp (hp p hq)).2)
def waStep (st : List Int × List Int) (t : Tp Int × Tp Int) : List Int × List Int := (st.1 ++ t.2.l, st.2 ++ t.1.l.filter fun x => !decide (x ∈ st.2) && !decide (x ∈ st.1))
@[irreducible] def wantM (y : Tch) : Int := ((y.foldl waStep ([], [])).2.length : Int)
theorem wa_len {n : Int} (hn : n ≤ 1000) : ∀ (l : Tch) (st : List Int × List Int), TchOk n l → (l.foldl waStep st).1.length ≤ st.1.length + 1000 * l.length ∧ (l.foldl waStep st).2.length ≤ st.2.length + 1000 * l.length
  | [], st, _ => ⟨Nat.le_refl _, Nat.le_refl _⟩
  | p :: l, st, hl => by
    rw [List.foldl_cons, List.length_cons]
    obtain ⟨h1, h2⟩ := hl p List.mem_cons_self
    obtain ⟨a1, a2⟩ := wa_len hn l (waStep st p) fun q hq => hl q (List.mem_cons_of_mem _ hq)
    have h3 := h1.len9
    have h4 := h2.len9
    have h5 : (waStep st p).1.length ≤ st.1.length + 1000 := by show (st.1 ++ p.2.l).length ≤ _; rw [List.length_append]; omega
    have h6 : (waStep st p).2.length ≤ st.2.length + 1000 := by
      show (st.2 ++ p.1.l.filter fun x => !decide (x ∈ st.2) && !decide (x ∈ st.1)).length ≤ _
      rw [List.length_append]
      have := List.length_filter_le (fun x => !decide (x ∈ st.2) && !decide (x ∈ st.1)) p.1.l
      omega
    omega
theorem mem_cut3 {δ : Type} {pre post l : List δ} {x : δ} (e : pre ++ x :: post = l) : ∀ p ∈ pre ++ [x], p ∈ l := fun p hp => by
  rw [← e]
  rcases List.mem_append.mp hp with q | q
  · exact List.mem_append_left _ q
  · rw [List.mem_singleton.mp q]; simp
/-! ### deeds played, by an order or as asked -/
def laM (reads : List Int) (written : Dct Bool) (came : Dct Int) (now : Int) : List Int := reads.filter fun p => !(written.get? p).isSome && decide (now ≤ (came.get? p).getD now)
def leM (order : List Int) (written : Dct Bool) (came : Dct Int) : List Int := order.filter fun p => !(written.get? p).isSome && !(came.get? p).isSome
def goX (reads order : List Int) (written : Dct Bool) (asks : Bool) (s : Dct Int × Int) : Int := ix [ix (leM order written s.1) 0, ix (laM reads written s.1 s.2) 0] (if asks = true then 1 else 0)
def goM (reads order : List Int) (written : Dct Bool) (asks : Bool) : Nat → Dct Int × Int → Dct Int × Int
  | 0, s => s
  | k + 1, s => if laM reads written s.1 s.2 = [] then s else goM reads order written asks k (s.1.put (goX reads order written asks s) s.2, s.2 + 1)
def CameOk (came : Dct Int) (now : Int) : Prop := (∀ x c, came.get? x = some c → c < now) ∧ came.Ok 1000
theorem la_none {reads : List Int} {written : Dct Bool} {came : Dct Int} {now x : Int} (h : CameOk came now) (hx : x ∈ laM reads written came now) : x ∈ reads ∧ (written.get? x).isSome = false ∧ (came.get? x).isSome = false := by
  obtain ⟨h1, h2⟩ := List.mem_filter.mp hx
  obtain ⟨h3, h4⟩ := Bool.and_eq_true_iff.mp h2
  refine ⟨h1, by simpa using h3, ?_⟩
  cases e : came.get? x with
  | none => rfl
  | some c =>
    rw [e] at h4
    have := h.1 x c e
    have := of_decide_eq_true h4
    dsimp only [Option.getD] at this
    omega
theorem le_of_la {reads order : List Int} {written : Dct Bool} {came : Dct Int} {now x : Int} (h : CameOk came now) (ho : ∀ x ∈ reads, x ∈ order) (hx : x ∈ laM reads written came now) : x ∈ leM order written came := by
  obtain ⟨h1, h2, h3⟩ := la_none h hx
  exact List.mem_filter.mpr ⟨ho x h1, by rw [h2, h3]; rfl⟩
theorem ix0_mem {xs : List Int} (h : xs ≠ []) : ix xs 0 ∈ xs := ix_mem (by omega) (by have := List.length_pos_iff.mpr h; omega)
theorem goX_mem {reads order : List Int} {written : Dct Bool} {asks : Bool} {came : Dct Int} {now : Int} (h : CameOk came now) (ho : ∀ x ∈ reads, x ∈ order) (hl : laM reads written came now ≠ []) : goX reads order written asks (came, now) ∈ leM order written came := by
  have h1 := le_of_la h ho (ix0_mem hl)
  unfold goX
  cases asks with
  | true => exact h1
  | false => exact ix0_mem (List.ne_nil_of_mem h1)
theorem le_less {order : List Int} {written : Dct Bool} {came : Dct Int} {x now : Int} (hx : x ∈ leM order written came) : (leM order written (came.put x now)).length < (leM order written came).length := by
  have e : leM order written (came.put x now) = (leM order written came).filter fun p => decide (p ≠ x) := by
    unfold leM
    rw [List.filter_filter]
    apply List.filter_congr
    intro p _
    rw [Dct.get?_put]
    by_cases q : p = x
    · rw [if_pos q, decide_eq_false (by simpa using q)]
      simp
    · rw [if_neg q, decide_eq_true (by simpa using q)]
      simp
  rw [e]
  have := List.length_filter_lt_length_iff_exists (p := fun p => decide (p ≠ x)) (l := leM order written came)
  exact this.mpr ⟨x, hx, by simp⟩
theorem CameOk.put {came : Dct Int} {now x : Int} (h : CameOk came now) (hx : 0 ≤ x ∧ x < 1000) : CameOk (came.put x now) (now + 1) := by
  refine ⟨fun y c e => ?_, h.2.put _ hx⟩
  rw [Dct.get?_put] at e
  by_cases q : y = x
  · rw [if_pos q] at e
    have : now = c := Option.some.inj e
    omega
  · rw [if_neg q] at e
    have := h.1 y c e
    omega
theorem goM_end {reads order : List Int} {written : Dct Bool} {asks : Bool} {f : Nat} {s : Dct Int × Int} (h : laM reads written s.1 s.2 = []) : goM reads order written asks f s = s := by
  cases f with
  | zero => rfl
  | succ f => rw [goM, if_pos h]
/-- within a deed -/
def GoI (reads order : List Int) (written : Dct Bool) (asks : Bool) (X : Dct Int × Int) (st : Dct Int × Int × List Int) : Prop :=
  st.2.2 = laM reads written st.1 st.2.1 ∧ CameOk st.1 st.2.1 ∧ ∃ f, goM reads order written asks f (st.1, st.2.1) = X ∧ (leM order written st.1).length < f
theorem GoI.next {reads order : List Int} {written : Dct Bool} {asks : Bool} {X : Dct Int × Int} {came : Dct Int} {now : Int} {lacks : List Int} (I : GoI reads order written asks X (came, now, lacks)) (ho : ∀ x ∈ reads, x ∈ order) (hb : ∀ x ∈ order, 0 ≤ x ∧ x < 1000) (hl : lacks ≠ []) :
    GoI reads order written asks X (came.put (goX reads order written asks (came, now)) now, now + 1, laM reads written (came.put (goX reads order written asks (came, now)) now) (now + 1)) ∧ (leM order written (came.put (goX reads order written asks (came, now)) now)).length < (leM order written came).length := by
  obtain ⟨h1, h2, f, h3, h4⟩ := I
  dsimp only at h1 h2 h3 h4
  rw [h1] at hl
  have hm := goX_mem (asks := asks) h2 ho hl
  have hd := le_less (now := now) hm
  have hx := hb _ (List.mem_filter.mp hm).1
  refine ⟨⟨rfl, h2.put hx, ?_⟩, hd⟩
  cases f with
  | zero => omega
  | succ f =>
    rw [goM, if_neg hl] at h3
    exact ⟨f, h3, by dsimp only; omega⟩
abbrev PlS := Dct Int × Dct Bool × List Int × Int
def plStep (order : List Int) (asks : Bool) (st : PlS) (t : Tp Int × Tp Int) : PlS :=
  ((cutL (leM order (wrD st.2.1 t.2.l) (goM t.1.l order st.2.1 asks (order.length + 1) (st.1, st.2.2.2)).1) none (some 1)).foldl (fun d p => d.put p (goM t.1.l order st.2.1 asks (order.length + 1) (st.1, st.2.2.2)).2) (goM t.1.l order st.2.1 asks (order.length + 1) (st.1, st.2.2.2)).1,
   wrD st.2.1 t.2.l, st.2.2.1 ++ [(goM t.1.l order st.2.1 asks (order.length + 1) (st.1, st.2.2.2)).2], (goM t.1.l order st.2.1 asks (order.length + 1) (st.1, st.2.2.2)).2 + 1)
@[irreducible] def playG (y : Tch) (order : List Int) (asks : Bool) : List Int × Int :=
  ((y.foldl (plStep order asks) (Dct.emp, Dct.emp, [], 0)).2.2.1, maxL ([0] ++ (cutL (y.foldl (plStep order asks) (Dct.emp, Dct.emp, [], 0)).2.2.1 none (some 1)).map fun _ => lastI (y.foldl (plStep order asks) (Dct.emp, Dct.emp, [], 0)).2.2.1 - ((y.foldl (plStep order asks) (Dct.emp, Dct.emp, [], 0)).2.2.1.length : Int) + 1))
theorem goM_ok {reads order : List Int} {written : Dct Bool} {asks : Bool} (ho : ∀ x ∈ reads, x ∈ order) (hb : ∀ x ∈ order, 0 ≤ x ∧ x < 1000) : ∀ (f : Nat) {s : Dct Int × Int}, CameOk s.1 s.2 → CameOk (goM reads order written asks f s).1 (goM reads order written asks f s).2
  | 0, s, h => h
  | f + 1, s, h => by
    rw [goM]
    split
    · exact h
    · rename_i hl
      exact goM_ok ho hb f (h.put (hb _ (List.mem_filter.mp (goX_mem h ho hl)).1))
theorem puts_ok {now : Int} : ∀ (l : List Int) {d : Dct Int}, (∀ x ∈ l, 0 ≤ x ∧ x < 1000) → (∀ x c, d.get? x = some c → c < now + 1) → d.Ok 1000 → CameOk (l.foldl (fun d p => d.put p now) d) (now + 1)
  | [], d, _, h, h2 => ⟨h, h2⟩
  | x :: l, d, hl, h, h2 => puts_ok l (d := d.put x now) (fun y hy => hl y (List.mem_cons_of_mem _ hy)) (fun y c e => by
      rw [Dct.get?_put] at e
      by_cases q : y = x
      · rw [if_pos q] at e
        have : now = c := Option.some.inj e
        omega
      · rw [if_neg q] at e
        exact h y c e) (h2.put _ (hl x List.mem_cons_self))
def PlOk (st : PlS) : Prop := CameOk st.1 st.2.2.2 ∧ st.2.1.Ok 1000
theorem pl_ok {n : Int} {order : List Int} {asks : Bool} (hn : n ≤ 1000) (hc : ∀ x, 0 ≤ x → x < n → x ∈ order) (hb : ∀ x ∈ order, 0 ≤ x ∧ x < 1000) : ∀ (l : Tch) (st : PlS), TchOk n l → PlOk st → PlOk (l.foldl (plStep order asks) st) ∧ (l.foldl (plStep order asks) st).2.2.1.length = st.2.2.1.length + l.length
  | [], st, _, h => ⟨h, rfl⟩
  | t :: l, st, hl, h => by
    rw [List.foldl_cons, List.length_cons]
    obtain ⟨h1, h2⟩ := hl t List.mem_cons_self
    have hor : ∀ x ∈ t.1.l, x ∈ order := fun x hx => hc x (h1.bd x hx).1 (h1.bd x hx).2
    have hg := goM_ok (written := st.2.1) (asks := asks) hor hb (order.length + 1) (s := (st.1, st.2.2.2)) h.1
    have h3 : PlOk (plStep order asks st t) := ⟨puts_ok _ (fun x hx => hb x (List.mem_filter.mp (List.mem_of_mem_drop (List.mem_of_mem_take hx))).1) (fun x c e => by have := hg.1 x c e; omega) hg.2, wrD_ok hn h.2 h2.bd⟩
    obtain ⟨a1, a2⟩ := pl_ok hn hc hb l (plStep order asks st t) (fun q hq => hl q (List.mem_cons_of_mem _ hq)) h3
    refine ⟨a1, ?_⟩
    rw [a2]
    show (st.2.2.1 ++ [_]).length + l.length = _
    rw [List.length_append, List.length_singleton]
    omega
end GL

namespace GL
open PySem PySem.Spec PyProof.Rows L2
/-! ### drawn orders -/
theorem erase_perm {α : Type} : ∀ (l : List α) (i : Nat) (h : i < l.length), (l[i] :: l.eraseIdx i).Perm l
  | [], _, h => absurd h (Nat.not_lt_zero _)
  | x :: l, 0, _ => List.Perm.refl _
  | x :: l, i + 1, h => by
    show (l[i]'(Nat.lt_of_succ_lt_succ h) :: x :: l.eraseIdx i).Perm (x :: l)
    exact (List.Perm.swap x _ _).trans ((erase_perm l i (Nat.lt_of_succ_lt_succ h)).cons x)
abbrev OrS := Pen × List Int
def orE (st : OrS) (_ : Int) : Int := ix st.2 (penTake st.1 (st.2.length : Int)).1
def orStep (st : OrS) (_ : Int) : OrS := ((penTake st.1 (st.2.length : Int)).2, st.2.eraseIdx (penTake st.1 (st.2.length : Int)).1.toNat)
theorem or_in {st : OrS} (h : st.2 ≠ []) : 0 ≤ (penTake st.1 (st.2.length : Int)).1 ∧ (penTake st.1 (st.2.length : Int)).1 < (st.2.length : Int) := pen_bd _ (by have := List.length_pos_iff.mpr h; omega)
theorem or_fold : ∀ (xs : List Int) (st : OrS), xs.length ≤ st.2.length → (xs.foldl orStep st).2.length = st.2.length - xs.length ∧ Anch.fp (xs.foldl orStep st).1 = Anch.fp st.1
  | [], st, _ => ⟨rfl, rfl⟩
  | x :: xs, st, h => by
    rw [List.length_cons] at h
    have hb := or_in (st := st) (fun e => by rw [e] at h; simp at h)
    have hl : (orStep st x).2.length = st.2.length - 1 := by
      show (st.2.eraseIdx _).length = _
      rw [List.length_eraseIdx, if_pos (by omega)]
    obtain ⟨h1, h2⟩ := or_fold xs (orStep st x) (by rw [hl]; omega)
    rw [List.foldl_cons, List.length_cons]
    refine ⟨by rw [h1, hl]; omega, h2.trans ?_⟩
    exact pen_fp _ _
theorem or_perm : ∀ (xs a : List Int) (st : OrS), xs.length ≤ st.2.length → ((xs.foldl (fun (a : List Int × OrS) x => (a.1 ++ [orE a.2 x], orStep a.2 x)) (a, st)).1 ++ (xs.foldl orStep st).2).Perm (a ++ st.2)
  | [], a, st, _ => List.Perm.refl _
  | x :: xs, a, st, h => by
    rw [List.length_cons] at h
    have hb := or_in (st := st) (fun e => by rw [e] at h; simp at h)
    have hl : (orStep st x).2.length = st.2.length - 1 := by
      show (st.2.eraseIdx _).length = _
      rw [List.length_eraseIdx, if_pos (by omega)]
    have ih := or_perm xs (a ++ [orE st x]) (orStep st x) (by rw [hl]; omega)
    rw [List.foldl_cons, List.foldl_cons]
    refine ih.trans ?_
    rw [List.append_assoc]
    refine List.Perm.append_left a ?_
    have hi : (penTake st.1 (st.2.length : Int)).1.toNat < st.2.length := by omega
    have e : orE st x = st.2[(penTake st.1 (st.2.length : Int)).1.toNat] := by
      have := ix_at (xs := st.2) hb.1 hb.2
      rw [List.getElem?_eq_getElem hi] at this
      exact (Option.some.inj this).symm
    rw [e]
    exact erase_perm st.2 _ hi
@[irreducible] def orderM (z : Pen) (n : Int) : List Int := (mapX orE orStep (rng 0 n) (z, rng 0 n)).1
theorem order_perm (z : Pen) (n : Int) : (orderM z n).Perm (rng 0 n) := by
  have h := or_perm (rng 0 n) [] (z, rng 0 n) (Nat.le_refl _)
  have h2 := (or_fold (rng 0 n) (z, rng 0 n) (Nat.le_refl _)).1
  have h3 : ((rng 0 n).foldl orStep (z, rng 0 n)).2 = [] := List.eq_nil_of_length_eq_zero (by rw [h2]; exact Nat.sub_self _)
  rw [h3, List.append_nil, List.nil_append] at h
  unfold orderM mapX
  exact h
/-! ### as the program goes -/
def nextM (order : List Int) (here : Dct Bool) : Option Int := order.find? fun x => !(here.get? x).isSome
def lackQ (reads : List Int) (here : Dct Bool) : List Int := reads.filter fun x => !(here.get? x).isSome
def HereR (here written : Dct Bool) (came : Dct Int) : Prop := ∀ x, (here.get? x).isSome = ((written.get? x).isSome || (came.get? x).isSome)
theorem lack_la {reads : List Int} {here written : Dct Bool} {came : Dct Int} {now : Int} (h : HereR here written came) (hc : CameOk came now) : lackQ reads here = laM reads written came now := by
  unfold lackQ laM
  apply List.filter_congr
  intro x _
  rw [h x]
  cases e : came.get? x with
  | none => simp
  | some c =>
    have := hc.1 x c e
    simp only [Option.isSome_some, Bool.or_true, Bool.not_true, Option.getD_some]
    rw [decide_eq_false (by omega), Bool.and_false]
theorem lackQ_le {order : List Int} {here written : Dct Bool} {came : Dct Int} (h : HereR here written came) : lackQ order here = leM order written came := by
  unfold lackQ leM
  apply List.filter_congr
  intro x _
  rw [h x, Bool.not_or]
theorem next_lack (order : List Int) (here : Dct Bool) : nextM order here = (lackQ order here).head? := by
  unfold nextM lackQ
  rw [List.head?_filter]
theorem HereR.put {here written : Dct Bool} {came : Dct Int} (h : HereR here written came) (x now : Int) : HereR (here.put x true) written (came.put x now) := fun y => by
  rw [Dct.get?_put, Dct.get?_put]
  by_cases e : y = x
  · rw [if_pos e, if_pos e]
    simp
  · rw [if_neg e, if_neg e]
    exact h y
theorem HereR.wr : ∀ (ws : List Int) {here written : Dct Bool} {came : Dct Int}, HereR here written came → HereR (wrD here ws) (wrD written ws) came
  | [], _, _, _, h => h
  | x :: ws, here, written, came, h => HereR.wr ws (here := here.put x true) (written := written.put x true) fun y => by
    rw [Dct.get?_put, Dct.get?_put]
    by_cases e : y = x
    · rw [if_pos e, if_pos e]
      simp
    · rw [if_neg e, if_neg e]
      exact h y
/-- within a deed, here for came -/
def GbI (reads order : List Int) (written : Dct Bool) (asks : Bool) (X : Dct Int × Int) (st : Dct Bool × Int) : Prop :=
  ∃ came, HereR st.1 written came ∧ st.1.Ok 1000 ∧ GoI reads order written asks X (came, st.2, laM reads written came st.2)
theorem head_ix {xs : List Int} (h : xs ≠ []) : xs.head? = some (ix xs 0) := by
  cases xs with
  | nil => exact absurd rfl h
  | cons x xs => rfl
/-- what comes next, as the program tells it -/
def comM (reads order : List Int) (here : Dct Bool) (asks : Bool) : Option Int := if asks = true then some (ix (lackQ reads here) 0) else nextM order here
theorem GbI.next {reads order : List Int} {written here : Dct Bool} {asks : Bool} {X : Dct Int × Int} {now : Int} (I : GbI reads order written asks X (here, now)) (ho : ∀ x ∈ reads, x ∈ order) (hb : ∀ x ∈ order, 0 ≤ x ∧ x < 1000) (hl : lackQ reads here ≠ []) :
    (comM reads order here asks).isSome = true ∧ (0 ≤ (comM reads order here asks).getD default ∧ (comM reads order here asks).getD default < 1000) ∧ GbI reads order written asks X (here.put ((comM reads order here asks).getD default) true, now + 1) ∧ (lackQ order (here.put ((comM reads order here asks).getD default) true)).length < (lackQ order here).length := by
  obtain ⟨came, h1, hok, h2⟩ := I
  dsimp only at h1 h2 hok
  have hcam := h2.2.1
  dsimp only at hcam
  have hla := lack_la (reads := reads) h1 hcam
  have hl' : laM reads written came now ≠ [] := by rw [← hla]; exact hl
  obtain ⟨n1, n2⟩ := h2.next ho hb hl'
  have hm := goX_mem (asks := asks) hcam ho hl'
  have e : comM reads order here asks = some (goX reads order written asks (came, now)) := by
    unfold comM goX
    rw [next_lack, hla, lackQ_le h1]
    cases asks with
    | true => rfl
    | false =>
      rw [if_neg (by decide)]
      exact head_ix (List.ne_nil_of_mem hm)
  have hx := hb _ (List.mem_filter.mp hm).1
  rw [e]
  have h4 := h1.put (goX reads order written asks (came, now)) now
  refine ⟨rfl, hx, ⟨_, h4, hok.put _ hx, n1⟩, ?_⟩
  show (lackQ order (here.put (goX reads order written asks (came, now)) true)).length < _
  rw [lackQ_le h4, lackQ_le h1]
  exact n2
theorem GbI.stop {reads order : List Int} {written here : Dct Bool} {asks : Bool} {X : Dct Int × Int} {now : Int} (I : GbI reads order written asks X (here, now)) (hl : lackQ reads here = []) : HereR here written X.1 ∧ X.2 = now ∧ CameOk X.1 now ∧ here.Ok 1000 := by
  obtain ⟨came, h1, hok, h2, h3, f, h4, h5⟩ := I
  dsimp only at h1 h3 h4 hok
  have hla := lack_la (reads := reads) h1 h3
  have e : X = (came, now) := by rw [← h4, goM_end (by rw [← hla]; exact hl)]
  rw [e]
  exact ⟨h1, rfl, h3, hok⟩
/-- behind so many deeds -/
def GnI (order : List Int) (asks : Bool) (pre : Tch) (st : Dct Bool × List Int × Int) : Prop :=
  ∃ came written, pre.foldl (plStep order asks) (Dct.emp, Dct.emp, [], 0) = (came, written, st.2.1, st.2.2) ∧ HereR st.1 written came ∧ st.1.Ok 1000 ∧ (pre.length : Int) ≤ st.2.2 ∧ st.2.1.length = pre.length ∧ (st.2.1 ≠ [] → lastI st.2.1 + 1 = st.2.2)
theorem GnI.start (order : List Int) (asks : Bool) : GnI order asks [] (Dct.emp, [], 0) := ⟨Dct.emp, Dct.emp, rfl, fun x => rfl, Dct.Ok.emp, Int.le_refl _, rfl, fun h => absurd rfl h⟩
theorem goM_ge {reads order : List Int} {written : Dct Bool} {asks : Bool} : ∀ (f : Nat) (s : Dct Int × Int), s.2 ≤ (goM reads order written asks f s).2
  | 0, s => Int.le_refl _
  | f + 1, s => by
    rw [goM]
    split
    · exact Int.le_refl _
    · have := goM_ge (reads := reads) (order := order) (written := written) (asks := asks) f (s.1.put (goX reads order written asks s) s.2, s.2 + 1)
      dsimp only at this
      exact Int.le_trans (by omega) this
theorem lastI_snoc (xs : List Int) (x : Int) : lastI (xs ++ [x]) = x := by
  unfold lastI ix
  simp
/-- one deed more: the sheet of the order that comes at its tick, or none -/
theorem GnI.step {order : List Int} {asks : Bool} {pre : Tch} {t : Tp Int × Tp Int} {came : Dct Int} {written here here2 : Dct Bool} {done : List Int} {now : Int}
    (hst : pre.foldl (plStep order asks) (Dct.emp, Dct.emp, [], 0) = (came, written, done, now)) (hlen : (pre.length : Int) ≤ now) (hdl : done.length = pre.length)
    (h : HereR here (wrD written t.2.l) (goM t.1.l order written asks (order.length + 1) (came, now)).1)
    (h2 : here2 = match nextM order here with | none => here | some x => here.put x true) (hok : here2.Ok 1000) :
    GnI order asks (pre ++ [t]) (here2, done ++ [(goM t.1.l order written asks (order.length + 1) (came, now)).2], (goM t.1.l order written asks (order.length + 1) (came, now)).2 + 1) := by
  have hge := goM_ge (reads := t.1.l) (order := order) (written := written) (asks := asks) (order.length + 1) (came, now)
  dsimp only at hge
  refine ⟨_, _, by rw [List.foldl_append, hst]; rfl, ?_, hok, ?_, ?_, ?_⟩
  · show HereR here2 (wrD written t.2.l) ((cutL (leM order (wrD written t.2.l) (goM t.1.l order written asks (order.length + 1) (came, now)).1) none (some 1)).foldl (fun d p => d.put p (goM t.1.l order written asks (order.length + 1) (came, now)).2) (goM t.1.l order written asks (order.length + 1) (came, now)).1)
    rw [h2, next_lack, lackQ_le h]
    cases leM order (wrD written t.2.l) (goM t.1.l order written asks (order.length + 1) (came, now)).1 with
    | nil => exact h
    | cons x xs => exact h.put x _
  · rw [List.length_append, List.length_singleton]
    dsimp only
    omega
  · dsimp only
    rw [List.length_append, List.length_append, hdl]
    rfl
  · intro _
    dsimp only
    rw [lastI_snoc]
theorem GnI.end {order : List Int} {asks : Bool} {y : Tch} {here : Dct Bool} {done : List Int} {now : Int} (I : GnI order asks y (here, done, now)) :
    playG y order asks = (done, if done = [] then 0 else lastI done - (done.length : Int) + 1) := by
  obtain ⟨came, written, h1, h2, _, h3, h4, h5⟩ := I
  dsimp only at h1 h3 h4 h5
  unfold playG
  rw [h1]
  dsimp only
  cases done with
  | nil => rfl
  | cons x xs =>
    have h6 := h5 (by simp)
    rw [if_neg (by simp)]
    have e : cutL (x :: xs) none (some 1) = [x] := rfl
    rw [e]
    congr 1
    show max (0 : Int) (lastI (x :: xs) - ((x :: xs).length : Int) + 1) = _
    omega
theorem find_no {here : Dct Bool} {pre : List Int} (h : ∀ y ∈ pre, (here.get? y).isSome = true) : pre.find? (fun x => !(here.get? x).isSome) = none := by
  rw [List.find?_eq_none]
  intro y hy
  rw [h y hy]
  decide
theorem find_at {here : Dct Bool} {pre post : List Int} {x : Int} (h : ∀ y ∈ pre, (here.get? y).isSome = true) (hx : (here.get? x).isSome = false) : (pre ++ x :: post).find? (fun x => !(here.get? x).isSome) = some x := by
  rw [List.find?_append, find_no h, Option.none_or, List.find?_cons, hx]
  rfl
theorem put_next {order : List Int} {here : Dct Bool} (h : (nextM order here).isSome = true) : here.put ((nextM order here).getD default) true = match nextM order here with | none => here | some x => here.put x true := by
  cases e : nextM order here with
  | none => rw [e] at h; cases h
  | some x => rfl
theorem no_next {order : List Int} {here : Dct Bool} (h : (nextM order here).isSome = false) : here = match nextM order here with | none => here | some x => here.put x true := by
  cases e : nextM order here with
  | none => rfl
  | some x => rw [e] at h; cases h
theorem next_bd {order : List Int} {here : Dct Bool} (hb : ∀ x ∈ order, 0 ≤ x ∧ x < 1000) (h : (nextM order here).isSome = true) : 0 ≤ (nextM order here).getD default ∧ (nextM order here).getD default < 1000 := by
  cases e : nextM order here with
  | none => rw [e] at h; cases h
  | some x => exact hb x (List.mem_of_find?_eq_some e)
theorem ix4 (P : Int → Prop) {a b c d x : Int} (h : 0 ≤ x ∧ x < 4) (ha : P a) (hb : P b) (hc : P c) (hd : P d) : P (ix [a, b, c, d] x) := by
  have e : x = 0 ∨ x = 1 ∨ x = 2 ∨ x = 3 := by omega
  rcases e with e | e | e | e <;> subst e
  · exact ha
  · exact hb
  · exact hc
  · exact hd
theorem draw_n (z : Pen) : 1 ≤ 1 + (penTake (penTake z 4).2 (ix [6, 6, 6, 12] (penTake z 4).1)).1 ∧ 1 + (penTake (penTake z 4).2 (ix [6, 6, 6, 12] (penTake z 4).1)).1 ≤ 12 := by
  have h := ix4 (fun v => 0 < v ∧ v ≤ 12) (a := 6) (b := 6) (c := 6) (d := 12) (pen_bd z (m := 4) (by decide)) (by decide) (by decide) (by decide) (by decide)
  have := pen_bd (penTake z 4).2 h.1
  omega
theorem play_len (order : List Int) (asks : Bool) : ∀ (l : Tch) (st : PlS), (l.foldl (plStep order asks) st).2.2.1.length = st.2.2.1.length + l.length
  | [], st => rfl
  | t :: l, st => by
    rw [List.foldl_cons, play_len order asks l]
    show (st.2.2.1 ++ [_]).length + l.length = _
    rw [List.length_append, List.length_singleton, List.length_cons]
    omega
theorem playG_len (y : Tch) (order : List Int) (asks : Bool) : (playG y order asks).1.length = y.length := by
  unfold playG
  dsimp only
  rw [play_len]
  exact Nat.zero_add _
theorem dle_ints (k : Nat) : ∀ xs : List Int, ∀ x ∈ xs.map ToD.dat, DLe k x := fun xs x hx => by
  obtain ⟨y, _, e⟩ := List.mem_map.mp hx
  rw [← e]
  exact .int
theorem dat_play {x : List Int × Int} (h : x.1.length ≤ 1000000) : DLe 3 (ToD.dat x) := by
  refine .tup (by simp) fun y hy => ?_
  rcases List.mem_cons.mp hy with e | e
  · rw [e]
    exact .lst (by rw [List.length_map]; exact h) (dle_ints 1 _)
  · rw [List.mem_singleton.mp e]
    exact .int
theorem tch_rep {n : Int} {y : Tch} {k : Nat} (h : TchOk n y) : TchOk n (List.replicate k y).flatten := fun t ht => by
  obtain ⟨l, h1, h2⟩ := List.mem_flatten.mp ht
  rw [List.eq_of_mem_replicate h1] at h2
  exact h t h2
theorem len_rep50 {y : Tch} : ((List.replicate (Int.toNat 50) y).flatten).length = 50 * y.length := by
  rw [List.length_flatten, List.map_replicate, List.sum_replicate_nat]
  rfl
end GL

namespace GL
open PySem PySem.Spec PyProof.Rows L2
/-! ### words of rows -/
def WRow.isSet : WRow → Bool
  | .set _ _ => true
  | _ => false
theorem isSet_w (r : WRow) : decide (r.word = Str.ofString "set") = r.isSet := by
  cases r with
  | set _ _ => exact (by decide +kernel : decide (Str.ofString "set" = Str.ofString "set") = true)
  | add _ _ => exact (by decide +kernel : decide (Str.ofString "add" = Str.ofString "set") = false)
  | jump _ _ => exact (by decide +kernel : decide (Str.ofString "jump" = Str.ofString "set") = false)
  | say _ => exact (by decide +kernel : decide (Str.ofString "say" = Str.ofString "set") = false)
  | take _ => exact (by decide +kernel : decide (Str.ofString "take" = Str.ofString "set") = false)
  | fin => exact (by decide +kernel : decide (Str.ofString "end" = Str.ofString "set") = false)
def WRow.isAdd : WRow → Bool
  | .add _ _ => true
  | _ => false
theorem isAdd_w (r : WRow) : decide (r.word = Str.ofString "add") = r.isAdd := by
  cases r with
  | set _ _ => exact (by decide +kernel : decide (Str.ofString "set" = Str.ofString "add") = false)
  | add _ _ => exact (by decide +kernel : decide (Str.ofString "add" = Str.ofString "add") = true)
  | jump _ _ => exact (by decide +kernel : decide (Str.ofString "jump" = Str.ofString "add") = false)
  | say _ => exact (by decide +kernel : decide (Str.ofString "say" = Str.ofString "add") = false)
  | take _ => exact (by decide +kernel : decide (Str.ofString "take" = Str.ofString "add") = false)
  | fin => exact (by decide +kernel : decide (Str.ofString "end" = Str.ofString "add") = false)
def WRow.isJump : WRow → Bool
  | .jump _ _ => true
  | _ => false
theorem isJump_w (r : WRow) : decide (r.word = Str.ofString "jump") = r.isJump := by
  cases r with
  | set _ _ => exact (by decide +kernel : decide (Str.ofString "set" = Str.ofString "jump") = false)
  | add _ _ => exact (by decide +kernel : decide (Str.ofString "add" = Str.ofString "jump") = false)
  | jump _ _ => exact (by decide +kernel : decide (Str.ofString "jump" = Str.ofString "jump") = true)
  | say _ => exact (by decide +kernel : decide (Str.ofString "say" = Str.ofString "jump") = false)
  | take _ => exact (by decide +kernel : decide (Str.ofString "take" = Str.ofString "jump") = false)
  | fin => exact (by decide +kernel : decide (Str.ofString "end" = Str.ofString "jump") = false)
def WRow.isSay : WRow → Bool
  | .say _ => true
  | _ => false
theorem isSay_w (r : WRow) : decide (r.word = Str.ofString "say") = r.isSay := by
  cases r with
  | set _ _ => exact (by decide +kernel : decide (Str.ofString "set" = Str.ofString "say") = false)
  | add _ _ => exact (by decide +kernel : decide (Str.ofString "add" = Str.ofString "say") = false)
  | jump _ _ => exact (by decide +kernel : decide (Str.ofString "jump" = Str.ofString "say") = false)
  | say _ => exact (by decide +kernel : decide (Str.ofString "say" = Str.ofString "say") = true)
  | take _ => exact (by decide +kernel : decide (Str.ofString "take" = Str.ofString "say") = false)
  | fin => exact (by decide +kernel : decide (Str.ofString "end" = Str.ofString "say") = false)
def WRow.isTake : WRow → Bool
  | .take _ => true
  | _ => false
theorem isTake_w (r : WRow) : decide (r.word = Str.ofString "take") = r.isTake := by
  cases r with
  | set _ _ => exact (by decide +kernel : decide (Str.ofString "set" = Str.ofString "take") = false)
  | add _ _ => exact (by decide +kernel : decide (Str.ofString "add" = Str.ofString "take") = false)
  | jump _ _ => exact (by decide +kernel : decide (Str.ofString "jump" = Str.ofString "take") = false)
  | say _ => exact (by decide +kernel : decide (Str.ofString "say" = Str.ofString "take") = false)
  | take _ => exact (by decide +kernel : decide (Str.ofString "take" = Str.ofString "take") = true)
  | fin => exact (by decide +kernel : decide (Str.ofString "end" = Str.ofString "take") = false)
def WRow.isFin : WRow → Bool
  | .fin => true
  | _ => false
theorem isFin_w (r : WRow) : decide (r.word = Str.ofString "end") = r.isFin := by
  cases r with
  | set _ _ => exact (by decide +kernel : decide (Str.ofString "set" = Str.ofString "end") = false)
  | add _ _ => exact (by decide +kernel : decide (Str.ofString "add" = Str.ofString "end") = false)
  | jump _ _ => exact (by decide +kernel : decide (Str.ofString "jump" = Str.ofString "end") = false)
  | say _ => exact (by decide +kernel : decide (Str.ofString "say" = Str.ofString "end") = false)
  | take _ => exact (by decide +kernel : decide (Str.ofString "take" = Str.ofString "end") = false)
  | fin => exact (by decide +kernel : decide (Str.ofString "end" = Str.ofString "end") = true)
theorem in_js (r : WRow) : decide (r.word ∈ [Str.ofString "jump", Str.ofString "say"]) = (r.isJump || r.isSay) := by
  rw [← isJump_w, ← isSay_w]
  simp [List.mem_cons]
theorem in_sat (r : WRow) : decide (r.word ∈ [Str.ofString "set", Str.ofString "add", Str.ofString "take"]) = (r.isSet || (r.isAdd || r.isTake)) := by
  rw [← isSet_w, ← isAdd_w, ← isTake_w]
  simp [List.mem_cons]
/-! ### programs and stands -/
abbrev Prog := T3 Int Int (Tp WRow)
abbrev Stand := Int × Tp Int
abbrev TickR := T5 Stand Str (Option Int) (Tp Int) (Tp Int)
def RowV (n w many : Int) : WRow → Prop
  | .set p v => (0 ≤ p ∧ p < n) ∧ 0 ≤ v ∧ v < w
  | .add p q => (0 ≤ p ∧ p < n) ∧ 0 ≤ q ∧ q < n
  | .jump p r => (0 ≤ p ∧ p < n) ∧ 0 ≤ r ∧ r < many
  | .say p => 0 ≤ p ∧ p < n
  | .take p => 0 ≤ p ∧ p < n
  | .fin => True
structure ProgOk (g : Prog) : Prop where
  n0 : 1 ≤ g.a
  n1 : g.a ≤ 12
  w0 : 2 ≤ g.b
  w1 : g.b ≤ 100
  m0 : 1 ≤ g.c.l.length
  m1 : g.c.l.length ≤ 20
  rows : ∀ r ∈ g.c.l, RowV g.a g.b g.c.l.length r
structure StandOk (g : Prog) (s : Stand) : Prop where
  a0 : 0 ≤ s.1
  a1 : s.1 ≤ g.c.l.length
  len : (s.2.l.length : Int) = g.a
  nums : ∀ x ∈ s.2.l, 0 ≤ x ∧ x < g.b
/-! ### a tick -/
def rowAtM (g : Prog) (s : Stand) : Option WRow := if (decide (s.1 = (g.c.l.length : Int)) || decide (ix g.c.l s.1 = WRow.fin)) = true then none else some (ix g.c.l s.1)
def readsM : WRow → Tp Int
  | .add p q => ⟨usrt [p, q]⟩
  | .jump p _ => ⟨[p]⟩
  | .say p => ⟨[p]⟩
  | _ => ⟨[]⟩
def writesM : WRow → Tp Int
  | .set p _ => ⟨[p]⟩
  | .add p _ => ⟨[p]⟩
  | .take p => ⟨[p]⟩
  | _ => ⟨[]⟩
def withM (sheets : Tp Int) (sheet number : Int) : Tp Int := ⟨cutL sheets.l none (some sheet) ++ [number] ++ cutL sheets.l (some (sheet + 1)) none⟩
def dSh (w : Int) (sheets : Tp Int) (letters : List Int) : WRow → Tp Int
  | .set p v => withM sheets p v
  | .add p q => withM sheets p ((ix sheets.l p + ix sheets.l q) % w)
  | .take p => withM sheets p (ix letters 0)
  | _ => sheets
def dWo : WRow → Str
  | .say _ => Str.ofString "said"
  | .take _ => Str.ofString "took"
  | _ => Str.ofString "did"
def dNu (sheets : Tp Int) (letters : List Int) : WRow → Option Int
  | .say p => some (ix sheets.l p)
  | .take _ => some (ix letters 0)
  | _ => none
def dGo (at_ : Int) (sheets : Tp Int) : WRow → Int
  | .jump p r => if decide (ix sheets.l p = 0) = true then r else at_ + 1
  | _ => at_ + 1
def doneM (g : Prog) (s : Stand) (r : WRow) (letters : List Int) : TickR := ⟨(dGo s.1 s.2 r, dSh g.b s.2 letters r), dWo r, dNu s.2 letters r, readsM r, writesM r⟩
@[irreducible] def tickM (g : Prog) (s : Stand) (letters : List Int) : TickR := match rowAtM g s with
  | none => ⟨s, Str.ofString "ended", none, ⟨[]⟩, ⟨[]⟩⟩
  | some r => if (r.isTake && decide (letters = [])) = true then ⟨s, Str.ofString "waits", none, ⟨[]⟩, ⟨[]⟩⟩ else doneM g s r letters
theorem with_set {sheets : Tp Int} {p v : Int} (h : 0 ≤ p ∧ p < sheets.l.length) : withM sheets p v = ⟨sheets.l.set p.toNat v⟩ := by
  obtain ⟨l⟩ := sheets
  unfold withM
  congr 1
  dsimp only at h ⊢
  have e : p = ((p.toNat : Nat) : Int) := by omega
  have e1 : p + 1 = ((p.toNat + 1 : Nat) : Int) := by omega
  unfold cutL
  rw [e1, e, HT.sIx_none, HT.sIx_none, HT.sIx_nat, HT.sIx_nat, Nat.min_eq_left (by omega), Nat.min_eq_left (by omega), List.drop_zero, Nat.sub_zero, Int.toNat_natCast,
    List.take_of_length_le (l := l.drop (p.toNat + 1)) (by rw [List.length_drop]; omega), List.set_eq_take_append_cons_drop, if_pos (by omega), List.append_assoc]
  rfl
theorem usrt_two (p q : Int) : usrt [p, q] = cutL [min p q, max p q] (some (if decide (p = q) = true then 1 else 0)) none := by
  symm
  by_cases e : p = q
  · subst e
    rw [decide_eq_true rfl, if_pos rfl]
    refine usrt_eq ?_ fun k => ?_
    · show List.Pairwise _ [max p p]
      exact List.pairwise_singleton _ _
    · show k ∈ [max p p] ↔ _
      rw [show max p p = p by omega]
      simp
  · rw [decide_eq_false e, if_neg (by decide)]
    refine usrt_eq ?_ fun k => ?_
    · show List.Pairwise _ [min p q, max p q]
      simp
      omega
    · show k ∈ [min p q, max p q] ↔ _
      simp
      omega
/-! ### drawn rows, programs, stands -/
@[irreducible] def rowM (z : Pen) (n w many : Int) (takes : Bool) : WRow × Pen :=
  let way := penTake z 14
  let p := penTake way.2 n
  if decide (way.1 < 3) = true then (.set p.1 (penTake p.2 w).1, (penTake p.2 w).2)
  else if decide (way.1 < 7) = true then (.add p.1 (penTake p.2 n).1, (penTake p.2 n).2)
  else if decide (way.1 < 9) = true then (.jump p.1 (penTake p.2 many).1, (penTake p.2 many).2)
  else if decide (way.1 < 11) = true then (.say p.1, p.2)
  else if (decide (way.1 < 13) && takes) = true then (.take p.1, p.2)
  else if decide (way.1 < 13) = true then (.add p.1 p.1, p.2)
  else (ix [.fin, .jump p.1 (penTake p.2 many).1, .say p.1] (penTake (penTake p.2 many).2 3).1, (penTake (penTake p.2 many).2 3).2)
theorem row_fp (z : Pen) (n w many : Int) (takes : Bool) : Anch.fp (rowM z n w many takes).2 = Anch.fp z := by
  unfold rowM
  dsimp only
  repeat' split
  all_goals simp only [pen_fp]
def RowT (takes : Bool) (r : WRow) : Prop := r.isTake = true → takes = true
theorem rowM_ok {z : Pen} {n w many : Int} {takes : Bool} (hn : 0 < n) (hw : 0 < w) (hm : 0 < many) : RowV n w many (rowM z n w many takes).1 ∧ RowT takes (rowM z n w many takes).1 := by
  unfold rowM
  dsimp only
  have h1 := pen_bd (penTake z 14).2 hn
  have h2 := pen_bd (penTake (penTake z 14).2 n).2 hw
  have h3 := pen_bd (penTake (penTake z 14).2 n).2 hn
  have h4 := pen_bd (penTake (penTake z 14).2 n).2 hm
  split
  · exact ⟨⟨h1, h2⟩, fun h => nomatch h⟩
  split
  · exact ⟨⟨h1, h3⟩, fun h => nomatch h⟩
  split
  · exact ⟨⟨h1, h4⟩, fun h => nomatch h⟩
  split
  · exact ⟨h1, fun h => nomatch h⟩
  split
  · rename_i h; exact ⟨h1, fun _ => (Bool.and_eq_true_iff.mp h).2⟩
  split
  · exact ⟨⟨h1, h1⟩, fun h => nomatch h⟩
  · have h5 := pen_bd (penTake (penTake (penTake z 14).2 n).2 many).2 (m := 3) (by decide)
    have e : (penTake (penTake (penTake (penTake z 14).2 n).2 many).2 3).1 = 0 ∨ (penTake (penTake (penTake (penTake z 14).2 n).2 many).2 3).1 = 1 ∨ (penTake (penTake (penTake (penTake z 14).2 n).2 many).2 3).1 = 2 := by omega
    rcases e with e | e | e <;> rw [e]
    · exact ⟨True.intro, fun h => nomatch h⟩
    · exact ⟨⟨h1, h4⟩, fun h => nomatch h⟩
    · exact ⟨h1, fun h => nomatch h⟩
def shE (w : Int) (st : Pen) (_ : Int) : Int := (penTake (penTake st 3).2 (ix [w, 1] (if decide ((penTake st 3).1 = 0) = true then 1 else 0))).1
def shStep (w : Int) (st : Pen) (_ : Int) : Pen := (penTake (penTake st 3).2 (ix [w, 1] (if decide ((penTake st 3).1 = 0) = true then 1 else 0))).2
@[irreducible] def sheetsM (z : Pen) (g : Prog) : Tp Int × Pen := (⟨(mapX (shE g.b) (shStep g.b) (rng 0 g.a) z).1⟩, (mapX (shE g.b) (shStep g.b) (rng 0 g.a) z).2)
theorem sh_pos {w : Int} {b : Bool} (hw : 0 < w) : 0 < ix [w, 1] (if b = true then 1 else 0) ∧ ix [w, 1] (if b = true then 1 else 0) ≤ max w 1 := by
  cases b
  · show 0 < w ∧ w ≤ max w 1
    omega
  · show (0 : Int) < 1 ∧ (1 : Int) ≤ max w 1
    omega
theorem sheets_fp (z : Pen) (g : Prog) : Anch.fp (sheetsM z g).2 = Anch.fp z := by
  unfold sheetsM
  exact mapX_inv (fun st => Anch.fp st = Anch.fp z) (fun s x h => by unfold shStep; rw [pen_fp, pen_fp]; exact h) (rng 0 g.a) z rfl
theorem sheets_ok {z : Pen} {g : Prog} (h0 : 0 ≤ g.a) (hw : 0 < g.b) : ((sheetsM z g).1.l.length : Int) = g.a ∧ ∀ x ∈ (sheetsM z g).1.l, 0 ≤ x ∧ x < g.b := by
  unfold sheetsM
  dsimp only
  refine ⟨by rw [mapX_len, len_rng]; omega, mapX_all (fun x => 0 ≤ x ∧ x < g.b) (fun s x => ?_) _ _⟩
  have h := sh_pos (b := decide ((penTake s 3).1 = 0)) hw
  have := pen_bd (penTake s 3).2 h.1
  unfold shE
  omega
theorem tick_row {g : Prog} {s : Stand} {r : WRow} (hg : ProgOk g) (hs : StandOk g s) (h : rowAtM g s = some r) : s.1 < g.c.l.length ∧ r = ix g.c.l s.1 ∧ r ≠ .fin ∧ RowV g.a g.b g.c.l.length r := by
  unfold rowAtM at h
  split at h
  · cases h
  · rename_i hc
    have e : ix g.c.l s.1 = r := Option.some.inj h
    simp at hc
    have h1 := hs.a0
    have h2 := hs.a1
    have hlt : s.1 < g.c.l.length := by omega
    refine ⟨hlt, e.symm, by rw [← e]; exact hc.2, ?_⟩
    rw [← e]
    exact hg.rows _ (ix_mem h1 hlt)
theorem nl1 {r : WRow} (h : r ≠ .fin) : 0 < r.nums.length := by
  cases r <;> first | exact absurd rfl h | simp [WRow.nums]
theorem nl2 {r : WRow} (h : r.isSet = true ∨ r.isAdd = true ∨ r.isJump = true) : 1 < r.nums.length := by
  cases r with
  | set p v => show 1 < 2; decide
  | add p v => show 1 < 2; decide
  | jump p v => show 1 < 2; decide
  | say p => rcases h with h | h | h <;> exact absurd h Bool.false_ne_true
  | take p => rcases h with h | h | h <;> exact absurd h Bool.false_ne_true
  | fin => rcases h with h | h | h <;> exact absurd h Bool.false_ne_true
theorem rv1 {n w m : Int} {r : WRow} (h : RowV n w m r) (hn : r ≠ .fin) : 0 ≤ r.a1 ∧ r.a1 < n := by
  cases r with
  | set p v => exact h.1
  | add p v => exact h.1
  | jump p v => exact h.1
  | say p => exact h
  | take p => exact h
  | fin => exact absurd rfl hn
theorem rv2 {n w m : Int} {r : WRow} (h : RowV n w m r) (hn : r.isAdd = true) : 0 ≤ r.a2 ∧ r.a2 < n := by
  cases r <;> first | exact h.2 | exact absurd hn Bool.false_ne_true
theorem tk_of {r : WRow} (hn : r ≠ .fin) (h0 : r.isSet = false) (h1 : r.isAdd = false) (h2 : r.isJump = false) (h3 : r.isSay = false) : r.isTake = true := by
  cases r <;> first | rfl | exact absurd rfl hn | exact absurd h0.symm Bool.false_ne_true | exact absurd h1.symm Bool.false_ne_true | exact absurd h2.symm Bool.false_ne_true | exact absurd h3.symm Bool.false_ne_true
theorem some_of {o : Option WRow} (h : o.isNone = false) : o.isSome = true := by
  cases o with
  | none => cases h
  | some r => rfl
theorem none_of {o : Option WRow} (h : o.isNone = true) : o = none := by
  cases o with
  | none => rfl
  | some r => cases h
theorem get_of {o : Option WRow} (h : o.isNone = false) : o = some (o.getD default) := by
  cases o with
  | none => cases h
  | some r => rfl
theorem tick_w {r : WRow} {letters : List Int} (h : (decide (r.word = Str.ofString "take") && decide ((letters.length : Int) = 0)) = true) : (r.isTake && decide (letters = [])) = true := by
  rw [isTake_w] at h
  obtain ⟨h1, h2⟩ := Bool.and_eq_true_iff.mp h
  have h3 := of_decide_eq_true h2
  rw [h1, decide_eq_true (List.eq_nil_of_length_eq_zero (by omega))]
  rfl
theorem tick_nw {r : WRow} {letters : List Int} (h : (decide (r.word = Str.ofString "take") && decide ((letters.length : Int) = 0)) = false) : ¬ (r.isTake && decide (letters = [])) = true := fun q => by
  rw [isTake_w] at h
  obtain ⟨h1, h2⟩ := Bool.and_eq_true_iff.mp q
  have h3 := of_decide_eq_true h2
  rw [h1, h3] at h
  exact absurd h.symm Bool.false_ne_true
theorem row_law {g : Prog} {s : Stand} {at_ : Int} {rows : Tp WRow} {r : WRow} (h1 : at_ = s.1) (h2 : rows = g.c) (h3 : r = ix rows.l at_) (hb : (decide ((rows.l.length : Int) ≤ at_) || decide ((ix rows.l at_).word = Str.ofString "end")) = false) : rowAtM g s = some r := by
  rw [isFin_w] at hb
  subst h1 h2 h3
  obtain ⟨b1, b2⟩ := Bool.or_eq_false_iff.mp hb
  have b3 := of_decide_eq_false b1
  unfold rowAtM
  rw [if_neg]
  intro q
  rcases Bool.or_eq_true_iff.mp q with q | q
  · have := of_decide_eq_true q; omega
  · rw [of_decide_eq_true q] at b2
    exact absurd b2.symm Bool.false_ne_true
theorem row_end {g : Prog} {s : Stand} {at_ : Int} {rows : Tp WRow} (hs : StandOk g s) (h1 : at_ = s.1) (h2 : rows = g.c) (hb : (decide ((rows.l.length : Int) ≤ at_) || decide ((ix rows.l at_).word = Str.ofString "end")) = true) : rowAtM g s = none := by
  rw [isFin_w] at hb
  subst h1 h2
  unfold rowAtM
  rw [if_pos]
  have := hs.a1
  rcases Bool.or_eq_true_iff.mp hb with q | q
  · have := of_decide_eq_true q
    rw [decide_eq_true (by omega)]
    rfl
  · have e : ix g.c.l s.1 = .fin := by
      cases e : ix g.c.l s.1 <;> rw [e] at q <;> first | rfl | exact absurd q Bool.false_ne_true
    rw [e]
    simp
theorem prog_ok {n w many : Int} {z : Pen} {takes : Bool} (hn : 1 ≤ n ∧ n ≤ 12) (hw : 2 ≤ w ∧ w ≤ 100) (hm : 1 ≤ many ∧ many ≤ 20) : ProgOk ⟨n, w, ⟨(mapX (fun st (_ : Int) => (rowM st n w many takes).1) (fun st _ => (rowM st n w many takes).2) (rng 0 many) z).1⟩⟩ ∧
    ∀ r ∈ (mapX (fun st (_ : Int) => (rowM st n w many takes).1) (fun st _ => (rowM st n w many takes).2) (rng 0 many) z).1, RowT takes r := by
  have hl : (mapX (fun st (_ : Int) => (rowM st n w many takes).1) (fun st _ => (rowM st n w many takes).2) (rng 0 many) z).1.length = many.toNat := by rw [mapX_len, len_rng]; omega
  have hr := mapX_all (e := fun st (_ : Int) => (rowM st n w many takes).1) (step := fun st _ => (rowM st n w many takes).2) (fun r => RowV n w many r ∧ RowT takes r) (fun st (_ : Int) => rowM_ok (z := st) (n := n) (w := w) (many := many) (takes := takes) (by omega) (by omega) (by omega)) (rng 0 many) z
  refine ⟨⟨hn.1, hn.2, hw.1, hw.2, by dsimp only; omega, by dsimp only; omega, fun r h => ?_⟩, fun r h => (hr r h).2⟩
  dsimp only at h ⊢
  rw [hl, show ((many.toNat : Nat) : Int) = many by omega]
  exact (hr r h).1
theorem prog_fp {n w many : Int} {z : Pen} {takes : Bool} : Anch.fp (mapX (fun st (_ : Int) => (rowM st n w many takes).1) (fun st _ => (rowM st n w many takes).2) (rng 0 many) z).2 = Anch.fp z :=
  mapX_inv (fun st => Anch.fp st = Anch.fp z) (fun s x h => by rw [row_fp]; exact h) (rng 0 many) z rfl
theorem pick2 (P : Int → Prop) {a b x : Int} (h : 0 ≤ x ∧ x < 2) (ha : P a) (hb : P b) : P (ix [a, b] x) := by
  have e : x = 0 ∨ x = 1 := by omega
  rcases e with e | e <;> subst e
  · exact ha
  · exact hb
theorem pick3 (P : Int → Prop) {a b c x : Int} (h : 0 ≤ x ∧ x < 3) (ha : P a) (hb : P b) (hc : P c) : P (ix [a, b, c] x) := by
  have e : x = 0 ∨ x = 1 ∨ x = 2 := by omega
  rcases e with e | e | e <;> subst e
  · exact ha
  · exact hb
  · exact hc
theorem pick5 (P : Int → Prop) {a b c d f x : Int} (h : 0 ≤ x ∧ x < 5) (ha : P a) (hb : P b) (hc : P c) (hd : P d) (hf : P f) : P (ix [a, b, c, d, f] x) := by
  have e : x = 0 ∨ x = 1 ∨ x = 2 ∨ x = 3 ∨ x = 4 := by omega
  rcases e with e | e | e | e | e <;> subst e
  · exact ha
  · exact hb
  · exact hc
  · exact hd
  · exact hf
theorem dr_n (z : Pen) : 1 ≤ 1 + (penTake (penTake z 2).2 (ix [3, 12] (penTake z 2).1)).1 ∧ 1 + (penTake (penTake z 2).2 (ix [3, 12] (penTake z 2).1)).1 ≤ 12 := by
  have h := pick2 (fun v => 0 < v ∧ v ≤ 12) (a := 3) (b := 12) (pen_bd z (m := 2) (by decide)) (by decide) (by decide)
  have := pen_bd (penTake z 2).2 h.1
  omega
theorem dr_m (z : Pen) : 1 ≤ 1 + (penTake (penTake z 3).2 (ix [6, 12, 20] (penTake z 3).1)).1 ∧ 1 + (penTake (penTake z 3).2 (ix [6, 12, 20] (penTake z 3).1)).1 ≤ 20 := by
  have h := pick3 (fun v => 0 < v ∧ v ≤ 20) (a := 6) (b := 12) (c := 20) (pen_bd z (m := 3) (by decide)) (by decide) (by decide) (by decide)
  have := pen_bd (penTake z 3).2 h.1
  omega
theorem mul01 {x : Int} {b : Bool} (h : 0 ≤ x) : 0 ≤ x * (if b = true then 1 else 0) ∧ x * (if b = true then 1 else 0) ≤ x := by
  cases b
  · rw [if_neg (by decide), Int.mul_zero]; omega
  · rw [if_pos rfl, Int.mul_one]; omega
section
variable {r : WRow} {w : Int} {sheets : Tp Int} {letters : List Int}
theorem dSh_set (h : r.isSet = true) (hb : 0 ≤ r.a1 ∧ r.a1 < (sheets.l.length : Int)) : (dSh w sheets letters r).l = sheets.l.set r.a1.toNat r.a2 := by
  cases r <;> first | exact absurd h Bool.false_ne_true | exact congrArg Tp.l (with_set hb)
theorem dSh_add (h : r.isAdd = true) (hb : 0 ≤ r.a1 ∧ r.a1 < (sheets.l.length : Int)) : (dSh w sheets letters r).l = sheets.l.set r.a1.toNat ((ix sheets.l r.a1 + ix sheets.l r.a2) % w) := by
  cases r <;> first | exact absurd h Bool.false_ne_true | exact congrArg Tp.l (with_set hb)
theorem dSh_take (h : r.isTake = true) (hb : 0 ≤ r.a1 ∧ r.a1 < (sheets.l.length : Int)) : (dSh w sheets letters r).l = sheets.l.set r.a1.toNat (ix letters 0) := by
  cases r <;> first | exact absurd h Bool.false_ne_true | exact congrArg Tp.l (with_set hb)
theorem reads_add (h : r.isAdd = true) : readsM r = ⟨cutL [min r.a1 r.a2, max r.a1 r.a2] (some (if decide (r.a1 = r.a2) = true then 1 else 0)) none⟩ := by
  cases r <;> first | exact absurd h Bool.false_ne_true | exact congrArg Tp.mk (usrt_two _ _)
theorem no_take (h : r.isTake = false) : ¬ (r.isTake && decide (letters = [])) = true := by rw [h]; simp
theorem isTake_of {f : WRow → Bool} (h : f r = true) (hf : ∀ p, f (.take p) = false) : r.isTake = false := by
  cases r <;> first | rfl | (rw [hf] at h; cases h)
end
theorem jump_of {r : WRow} (hn : r ≠ .fin) (h0 : r.isSet = false) (h1 : r.isAdd = false) (h2 : r.isTake = false) (h3 : r.isSay = false) : r.isJump = true := by
  cases r <;> first | rfl | exact absurd rfl hn | exact absurd h0.symm Bool.false_ne_true | exact absurd h1.symm Bool.false_ne_true | exact absurd h2.symm Bool.false_ne_true | exact absurd h3.symm Bool.false_ne_true
end GL

/-! Objects: fields by their places, a carried program as an owned thing. -/
namespace L2
open PySem PySem.Spec PyProof.Rows
section
variable {X : Cx}
/-- o.f = .., as a target -/
def gFld (K : PySem.W.Frag) (to : TE) (f : Str) : TG := fun v σ H Q => to σ H fun x H1 => ∃ a C dx fs, x = .ref a ∧ H1 a = some (.ins C dx fs) ∧ Cls K C ∧ NoAttr K C f ∧ fs.length < 1000 ∧ Q σ (upd H1 a (.ins C dx (putF f v fs)))
theorem pg_fld {o : Expr} {f : Str} {pos : Pos} {to : TE} (ho : PE X o to) : PG X (.Attribute o f pos) (gFld X.K to f) := by
  refine ⟨fun pins s σ H v u Q I r h => ?_⟩
  rw [arm_assign_Attribute]
  refine wpAny_bind (wpAny_holding (thn (ho.run pins s σ H _ I h) fun ov s1 ⟨x, H1, I1, r1, a, C, dx, fs, ex, ea, c, n, l, q⟩ => ?_))
  subst ex
  obtain rfl : ov = Value.ref a := r1
  refine wpAny_bind (wpAny_standAt (wpAny_bind (wpAny_holding (setattr_ok I1 ea c n l r fun s3 I3 => ?_))))
  exact wpAny_release ⟨σ, _, I3, q⟩
end
end L2
namespace GL
open PySem PySem.Spec PyProof.Rows L2
/-! ### fields by their places -/
def fIx (f : Str) : List Str → Nat
  | [] => 0
  | k :: ks => if k = f then 0 else fIx f ks + 1
theorem look_zip {f : Str} : ∀ {ks : List Str} {vs : List V} {n : Nat}, fIx f ks = n → n < ks.length → (ks.zip vs).lookup f = vs[n]?
  | [], _, _, _, h => absurd h (Nat.not_lt_zero _)
  | _ :: _, [], _, _, _ => rfl
  | k :: ks, v :: vs, n, e, h => by
    unfold fIx at e
    rw [List.zip_cons_cons]
    by_cases c : k = f
    · rw [if_pos c] at e
      subst e c
      simp [List.lookup]
    · rw [if_neg c] at e
      subst e
      have hb : (f == k) = false := beq_eq_false_iff_ne.mpr fun z => c z.symm
      simp only [List.lookup, hb]
      rw [look_zip (ks := ks) (vs := vs) rfl (by simpa using h)]
      rfl
theorem look_none {f : Str} : ∀ {ks : List Str} {vs : List V}, f ∉ ks → (ks.zip vs).lookup f = none
  | [], _, _ => rfl
  | _ :: _, [], _ => rfl
  | k :: ks, v :: vs, h => by
    have hb : (f == k) = false := beq_eq_false_iff_ne.mpr fun z => h (by rw [z]; exact List.mem_cons_self)
    rw [List.zip_cons_cons]
    simp only [List.lookup, hb]
    exact look_none fun z => h (List.mem_cons_of_mem _ z)
theorem put_zip {f : Str} {y : V} : ∀ {ks : List Str} {vs : List V} {n : Nat}, fIx f ks = n → n < ks.length → ks.length = vs.length → putF f y (ks.zip vs) = ks.zip (vs.set n y)
  | [], _, _, _, h, _ => absurd h (Nat.not_lt_zero _)
  | _ :: _, [], _, _, _, h => by cases h
  | k :: ks, v :: vs, n, e, h, hl => by
    unfold fIx at e
    rw [List.zip_cons_cons]
    unfold putF
    by_cases c : k = f
    · rw [if_pos c] at e ⊢
      subst e
      rfl
    · rw [if_neg c] at e ⊢
      subst e
      rw [put_zip (ks := ks) (vs := vs) rfl (by simpa using h) (by simpa using hl)]
      rfl
theorem put_snoc {f : Str} {y : V} : ∀ {ks : List Str} {vs : List V}, f ∉ ks → ks.length = vs.length → putF f y (ks.zip vs) = (ks ++ [f]).zip (vs ++ [y])
  | [], [], _, _ => rfl
  | [], _ :: _, _, h => by cases h
  | _ :: _, [], _, h => by cases h
  | k :: ks, v :: vs, h, hl => by
    rw [List.zip_cons_cons]
    unfold putF
    rw [if_neg fun z => h (by rw [z]; exact List.mem_cons_self), put_snoc (fun z => h (List.mem_cons_of_mem _ z)) (by simpa using hl)]
    rfl
def oV : Option Int → V
  | none => .non
  | some x => .int x
theorem oV_rep {K : Fg} {S : Hp} {v : V} {x : Option Int} (h : Py.rep K S v x) : v = oV x := by
  cases x with
  | none => exact h
  | some y => exact h
theorem rep_oV {K : Fg} {S : Hp} (x : Option Int) : Py.rep K S (oV x) x := by
  cases x with
  | none => exact rfl
  | some y => exact rfl
/-! ### a carried program -/
structure Car (C : Addr) where
  a : Addr
  w : Addr
  s : Addr
  f : Addr
  b : Addr
  g : Prog
  st : Stand
  houses : Int
  place : Int
  wait : List Int
  said : List Int
  done : Int
  goal : Option Int
  still : Bool
  fresh : Dct Bool
  made : Int
  absent : Dct Bool
def carK : List Str := ["program", "stand", "houses", "place", "waiting", "spoken", "done", "goal", "is_still", "fresh", "made", "absent"]
def carV {C : Addr} (z : Car C) (pv sv : V) : List V := [pv, sv, .int z.houses, .int z.place, .ref z.w, .ref z.s, .int z.done, oV z.goal, .bl z.still, .ref z.f, .int z.made, .ref z.b]
structure CarAt {C : Addr} (K : Fg) (S H : Hp) (z : Car C) (dx : Addr) (pv sv : V) (kf kb : List (Key × V)) : Prop where
  cl : Cls K C
  na : ∀ k ∈ carK, NoAttr K C k
  ob : H z.a = some (.ins C dx (carK.zip (carV z pv sv)))
  rg : Py.rep K S pv z.g
  rs : Py.rep K S sv z.st
  hw : H z.w = some (.lst (z.wait.map V.int))
  hs : H z.s = some (.lst (z.said.map V.int))
  hf : H z.f = some (.dK kf)
  rf : RepD K S kf z.fresh.l
  hb : H z.b = some (.dK kb)
  rb : RepD K S kb z.absent.l
  d1 : z.w ≠ z.s
  d2 : z.f ≠ z.b
def Car.fp {C : Addr} (z : Car C) : List Addr := [z.a, z.w, z.s, z.f, z.b]
section
variable {C : Addr} {K : Fg} {S S' H H' : Hp} {z z' : Car C} {dx : Addr} {pv sv : V} {kf kb : List (Key × V)}
theorem CarAt.mono (c : CarAt K S H z dx pv sv kf kb) (e : Same S S') (h : ∀ p ∈ z.fp, H' p = H p) : CarAt K S' H' z dx pv sv kf kb :=
  ⟨c.cl, c.na, by rw [h _ (by simp [Car.fp])]; exact c.ob, Py.mono e c.rg, Py.mono e c.rs, by rw [h _ (by simp [Car.fp])]; exact c.hw, by rw [h _ (by simp [Car.fp])]; exact c.hs, by rw [h _ (by simp [Car.fp])]; exact c.hf, c.rf.mono e, by rw [h _ (by simp [Car.fp])]; exact c.hb, c.rb.mono e, c.d1, c.d2⟩
instance : Own (Car C) := ⟨fun K S H v ps z => v = .ref z.a ∧ ps = z.fp ∧ ∃ dx pv sv kf kb, CarAt K S H z dx pv sv kf kb, fun {K S S' H H' v ps x} e a ⟨h1, h2, dx, pv, sv, kf, kb, c⟩ => ⟨h1, h2, dx, pv, sv, kf, kb, c.mono e (by rw [← h2]; exact a)⟩⟩
instance : Anch (Car C) := ⟨fun z => (.ref z.a, z.fp), fun ⟨h1, h2, _⟩ => by rw [h1, h2]⟩
theorem CarAt.ne_w (c : CarAt K S H z dx pv sv kf kb) : z.w ≠ z.a := fun e => by have h := c.hw; rw [e, c.ob] at h; cases h
theorem CarAt.ne_s (c : CarAt K S H z dx pv sv kf kb) : z.s ≠ z.a := fun e => by have h := c.hs; rw [e, c.ob] at h; cases h
theorem CarAt.ne_f (c : CarAt K S H z dx pv sv kf kb) : z.f ≠ z.a := fun e => by have h := c.hf; rw [e, c.ob] at h; cases h
theorem CarAt.ne_b (c : CarAt K S H z dx pv sv kf kb) : z.b ≠ z.a := fun e => by have h := c.hb; rw [e, c.ob] at h; cases h
theorem CarAt.ne_wf (c : CarAt K S H z dx pv sv kf kb) : z.w ≠ z.f := fun e => by have h := c.hw; rw [e, c.hf] at h; cases h
theorem CarAt.ne_wb (c : CarAt K S H z dx pv sv kf kb) : z.w ≠ z.b := fun e => by have h := c.hw; rw [e, c.hb] at h; cases h
theorem CarAt.ne_sf (c : CarAt K S H z dx pv sv kf kb) : z.s ≠ z.f := fun e => by have h := c.hs; rw [e, c.hf] at h; cases h
theorem CarAt.ne_sb (c : CarAt K S H z dx pv sv kf kb) : z.s ≠ z.b := fun e => by have h := c.hs; rw [e, c.hb] at h; cases h
/-- a plain field set -/
theorem CarAt.set {pv' sv' : V} {f : Str} {y : V} {n : Nat} (c : CarAt K S H z dx pv sv kf kb) (hn : fIx f carK = n) (hl : n < 12) (e : (carV z pv sv).set n y = carV z' pv' sv') (ha : z'.a = z.a) (h1 : z'.w = z.w) (h2 : z'.s = z.s) (h3 : z'.f = z.f) (h4 : z'.b = z.b)
    (w1 : z'.wait = z.wait) (w2 : z'.said = z.said) (w3 : z'.fresh = z.fresh) (w4 : z'.absent = z.absent) (rg : Py.rep K S pv' z'.g) (rs : Py.rep K S sv' z'.st) : CarAt K S (upd H z.a (.ins C dx (putF f y (carK.zip (carV z pv sv))))) z' dx pv' sv' kf kb := by
  refine ⟨c.cl, c.na, ?_, rg, rs, ?_, ?_, ?_, by rw [w3]; exact c.rf, ?_, by rw [w4]; exact c.rb, by rw [h1, h2]; exact c.d1, by rw [h3, h4]; exact c.d2⟩
  · rw [ha, upd_same, put_zip hn hl rfl, e]
  · rw [h1, w1, upd_ne c.ne_w]; exact c.hw
  · rw [h2, w2, upd_ne c.ne_s]; exact c.hs
  · rw [h3, upd_ne c.ne_f]; exact c.hf
  · rw [h4, upd_ne c.ne_b]; exact c.hb
end
section
variable {C : Addr} {K : Fg} {B S0 S1 S S' D : Hp} {σ : L2.St} {H H' : Hp} {F : Nat → List Addr} {G G' G1 G2 G3 G4 G5 : List Sl} {ta tb tc td te : TE} {i j l : Nat} {t u : TS} {E : Ends} {z : Car C}
theorem car_at (k : Kn K B S0 S σ H F G) (hi : G[i]? = some (.ow z)) : σ[i]? = some (some (.ref z.a)) ∧ F i = z.fp ∧ ∃ dx pv sv kf kb, CarAt K S H z dx pv sv kf kb := by
  obtain ⟨v, h1, h2, h3, h4⟩ := k.ow hi
  exact ⟨by rw [h1, h2], h3, h4⟩
theorem ev_fld {α : Type} [Py α] {x : α} {f : Str} (n : Nat) (hn : fIx f carK = n) (hl : n < 12) (hi : G[i]? = some (.ow z)) (h : ∀ {K : Fg} {S : Hp} {pv sv : V}, Py.rep K S pv z.g → Py.rep K S sv z.st → ∃ v, (carV z pv sv)[n]? = some v ∧ Py.rep K S v x) : EvX K (tFld K (tVar i) f) G x G := fun B S0 S σ H F k Q q => by
  obtain ⟨h1, h2, dx, pv, sv, kf, kb, c⟩ := car_at k hi
  obtain ⟨v, h3, h4⟩ := h c.rg c.rs
  have hf : f ∈ carK := by
    have : ∀ ks : List Str, fIx f ks < ks.length → f ∈ ks := fun ks => by
      induction ks with
      | nil => intro h; exact absurd h (Nat.not_lt_zero _)
      | cons k ks ih =>
        intro h
        unfold fIx at h
        by_cases c : k = f
        · rw [c]; exact List.mem_cons_self
        · rw [if_neg c] at h
          exact List.mem_cons_of_mem _ (ih (by simpa using h))
    exact this carK (by rw [hn]; exact hl)
  exact ⟨.ref z.a, h1, z.a, C, dx, _, v, rfl, c.ob, c.cl, c.na f hf, by rw [look_zip hn hl]; exact h3, q v S H (Same.refl _) k h4⟩
theorem ev_program (hi : G[i]? = some (.ow z)) : EvX K (tFld K (tVar i) "program") G z.g G := ev_fld 0 (by decide +kernel) (by decide) hi fun a b => ⟨_, rfl, a⟩
theorem ev_stand (hi : G[i]? = some (.ow z)) : EvX K (tFld K (tVar i) "stand") G z.st G := ev_fld 1 (by decide +kernel) (by decide) hi fun a b => ⟨_, rfl, b⟩
theorem ev_houses (hi : G[i]? = some (.ow z)) : EvX K (tFld K (tVar i) "houses") G z.houses G := ev_fld 2 (by decide +kernel) (by decide) hi fun a b => ⟨_, rfl, rfl⟩
theorem ev_place (hi : G[i]? = some (.ow z)) : EvX K (tFld K (tVar i) "place") G z.place G := ev_fld 3 (by decide +kernel) (by decide) hi fun a b => ⟨_, rfl, rfl⟩
theorem ev_done (hi : G[i]? = some (.ow z)) : EvX K (tFld K (tVar i) "done") G z.done G := ev_fld 6 (by decide +kernel) (by decide) hi fun a b => ⟨_, rfl, rfl⟩
theorem ev_goal (hi : G[i]? = some (.ow z)) : EvX K (tFld K (tVar i) "goal") G z.goal G := ev_fld 7 (by decide +kernel) (by decide) hi fun a b => ⟨_, rfl, rep_oV _⟩
theorem ev_is_still (hi : G[i]? = some (.ow z)) : EvX K (tFld K (tVar i) "is_still") G z.still G := ev_fld 8 (by decide +kernel) (by decide) hi fun a b => ⟨_, rfl, rfl⟩
theorem ev_made (hi : G[i]? = some (.ow z)) : EvX K (tFld K (tVar i) "made") G z.made G := ev_fld 10 (by decide +kernel) (by decide) hi fun a b => ⟨_, rfl, rfl⟩
end
end GL

/-! Refusals: their classes, isinstance of a kept one, defs that raise, calls of them, try. -/
namespace GL
open PySem PySem.Spec PyProof.Rows L2
inductive XC
  | tooMany | noHouse | noLetter | noStep | noRow | noText | base
  deriving DecidableEq
def xY (a0 a1 a2 a3 a4 a5 a6 : Addr) : XC → Addr
  | .tooMany => a0
  | .noHouse => a1
  | .noLetter => a2
  | .noStep => a3
  | .noRow => a4
  | .noText => a5
  | .base => a6
/-- a class of refusals that is raised by a text -/
structure XCls (K : Fg) (mg : Str → Option Value) (nm : Str) (C : Addr) : Prop where
  g : mg nm = some (.ref C)
  x : PySem.W.excIn K C [.type "ValueError", .type "Exception", .type "BaseException", .type "object"] "ValueError.__new__" = true
  kp : PySem.W.keepIn K (.ref C) = true
  ty : PySem.W.typeIn K (.ref C) = some (.type "type")
  hg : PySem.W.findIn K (.ref C) "__getattribute__" = some (some (.builtin "BaseException.__getattribute__"))
  hk : PySem.W.findIn K (.ref C) "__getattr__" = some none
  hs : PySem.W.subIn K (.ref C) (.type "BaseException") = some true
  hd : PySem.W.hasDictIn K C = true
  ha : PySem.W.findIn K (.ref C) "__class__" = some (some (.builtin "object.__class__"))
  hn : PySem.W.specialIn K (.builtin "object.__class__") "__get__" = some (some (.builtin "getset_descriptor.__get__"))
  ht : PySem.W.takesIn K (.builtin "object.__class__") = some true
  hm : PySem.W.mroIn K C (.type "object") = some true
/-- .. that is asked for -/
structure XTst (K : Fg) (mg : Str → Option Value) (nm : Str) (C : Addr) : Prop where
  g : mg nm = some (.ref C)
  ty : PySem.W.typeIn K (.ref C) = some (.type "type")
  hs : PySem.W.subIn K (.ref C) (.type "BaseException") = some true
  hd : PySem.W.hasDictIn K C = true
  self : PySem.W.subIn K (.ref C) (.ref C) = some true
theorem XCls.c {K : Fg} {mg : Str → Option Value} {nm : Str} {C : Addr} (t : XCls K mg nm C) : ExcC K C := ⟨t.hg, t.hk, t.hs, t.hd, t.ha, t.hn, t.ht, t.hm⟩
theorem XTst.met {K : Fg} {mg : Str → Option Value} {nm : Str} {C : Addr} {cls : Value} (t : XTst K mg nm C) (h : PySem.W.subIn K cls (.ref C) = some true) : PySem.W.exmOne K cls (.ref C) = some true := PySem.W.exm_ref t.hs t.hd t.ty h
theorem XTst.names {X : Cx} {nm : Str} {C : Addr} (t : XTst X.K X.mg nm C) (hg : Gl X nm) (hd : (nm == ("__debug__" : Str)) = false := by decide) : Names X nm (.ref C) := ⟨hg, hd, .inl t.g⟩
theorem cls_some {K : Fg} {C : Addr} (h : PySem.W.hasDictIn K C = true) : (PySem.W.clsIn K C).isSome = true := by
  unfold PySem.W.hasDictIn at h
  cases e : PySem.W.clsIn K C with
  | none => rw [e] at h; cases h
  | some _ => rfl
theorem XTst.kit {K : Fg} {mg : Str → Option Value} {nm : Str} {C : Addr} {t : Value} {b : Bool} (x : XTst K mg nm C) (h : PySem.W.subIn K t (.ref C) = some b) : PySem.W.kitOne K t (.ref C) = some b := by
  unfold PySem.W.kitOne
  by_cases e : (t == Value.ref C) = true
  · rw [if_pos e]
    rw [eq_of_beq e, x.self] at h
    exact h
  · rw [if_neg e]
    unfold PySem.W.kitCls
    dsimp only
    rw [if_pos (by rw [cls_some x.hd, x.ty]; rfl)]
    exact h
theorem kit_bi {K : Fg} {C : Addr} {T : String} {b : Bool} (hT : PySem.W.kitMeta T = true) (h : PySem.W.subIn K (.ref C) (.type T) = some b) : PySem.W.kitOne K (.ref C) (.type T) = some b := by
  unfold PySem.W.kitOne
  rw [if_neg (show ¬ ((Value.ref C == Value.type T) = true) by simp)]
  unfold PySem.W.kitCls
  dsimp only
  rw [if_pos hT]
  exact h
/-- a kept refusal -/
structure Exc (Y : XC → Addr) where
  x : XC
section
variable {Y : XC → Addr}
instance : Py (Exc Y) := ⟨fun K S v e => ∃ p, v = .ref p ∧ S p = some (excH (.ref (Y e.x)) none p), fun s ⟨p, h1, h2⟩ => ⟨p, h1, s _ _ h2⟩⟩
theorem nn_exc : ∀ (K : Fg) (S : Hp) (v : V) (y : Exc Y), Py.rep K S v y → v ≠ .non := fun K S v y ⟨p, e, _⟩ z => by rw [e] at z; cases z
end
/-! ### isinstance -/
def rIsX (K : Fg) : List V → Hp → VK → Prop := fun xs H Q => ∃ (a D : Addr) (c : V) (cv : Value) (b : Bool), xs = [.ref a, c] ∧ ExcC K D ∧ H a = some (excH (.ref D) none a) ∧ (∀ u, RelV c u → u = cv) ∧ PySem.W.kitOne K (.ref D) cv = some b ∧ Q (.bl b) H
def rIsXs (K : Fg) : List V → Hp → VK → Prop := fun xs H Q => ∃ (a D tp : Addr) (cs : List Addr) (b : Bool), xs = [.ref a, .ref tp] ∧ ExcC K D ∧ H a = some (excH (.ref D) none a) ∧ H tp = some (.tup (cs.map V.ref)) ∧ PySem.W.kitAny K (.ref D) (cs.map Value.ref) = some b ∧ Q (.bl b) H
theorem exc_inst {P : Program} {w : World} {H : Hp} {h : Heap} {a D : Addr} (hok : HOk P w H h) (e : H a = some (excH (.ref D) none a)) : ∃ ob, PySem.W.InstAt h a ob D none := by
  obtain ⟨⟨ob, fs, e1, e2, e3⟩, _⟩ := hok a _ e
  obtain ⟨oc, od, oda, osl⟩ := ob
  obtain ⟨z1, z2⟩ := e2
  dsimp only at z1 z2 e3
  subst z1 z2 e3
  exact ⟨_, e1, rfl, rfl, trivial⟩
theorem vals_refs : ∀ {cs : List Addr} {us : List Value}, Vals (cs.map V.ref) us → us = cs.map Value.ref
  | [], _, h => by cases h; rfl
  | c :: cs, _, h => by
    cases h with
    | cons r t =>
      cases r
      rw [vals_refs t]
      rfl
theorem call_isX {X : Cx} : CallR X (.builtin "isinstance") (rIsX X.K) := fun pins s σ H xs us Q I r h => by
  obtain ⟨a, D, c, cv, b, rfl, C, ha, hc, hk, q⟩ := h
  cases r with
  | cons r1 r =>
    cases r with
    | cons r2 r =>
      cases r
      cases r1
      rw [hc _ r2]
      obtain ⟨ob, J⟩ := exc_inst I.hok ha
      exact PySem.W.kia_one (PySem.W.handS_kitx_exc (ox := ob) C.hg C.hk C.hs C.hd C.ha C.hn C.ht C.hm) I.kIn J hk (fun z => nomatch z) fun tk => ⟨.bl b, H, I.tok tk, rfl, q⟩
theorem call_isXs {X : Cx} : CallR X (.builtin "isinstance") (rIsXs X.K) := fun pins s σ H xs us Q I r h => by
  obtain ⟨a, D, tp, cs, b, rfl, C, ha, ht, hk, q⟩ := h
  cases r with
  | cons r1 r =>
    cases r with
    | cons r2 r =>
      cases r
      cases r1
      cases r2
      obtain ⟨ob, J⟩ := exc_inst I.hok ha
      obtain ⟨_, its, rv, o, h1, h2, n, h3⟩ := (show ObjOk X.prog X.w H s.heap tp (.tup (cs.map V.ref)) from I.hok tp _ ht)
      have e := vals_refs rv
      subst e
      obtain ⟨oc, od, dt, sl⟩ := o
      simp only at h2 h3
      subst h2 h3
      exact PySem.W.kia_tup (PySem.W.handS_kitx_exc (ox := ob) C.hg C.hk C.hs C.hd C.ha C.hn C.ht C.hm) I.kIn J h1 hk (fun z => nomatch z) fun tk => ⟨.bl b, H, I.tok tk, rfl, q⟩
section
variable {K : Fg} {B S0 S1 S S' : Hp} {σ : L2.St} {H H' : Hp} {F : Nat → List Addr} {G G' G1 G2 : List Sl} {ta te : TE} {t : TA} {u : TS} {D : Ends} {i j : Nat} {Y : XC → Addr} {α β : Type} {mg : Str → Option Value} {nm : Str}
theorem ev_isX {e : XC} {C : Addr} {b : Bool} (x : XCls K mg nm (Y e)) (ha : EvX K ta G (Exc.mk (Y := Y) e) G1) (hk : PySem.W.kitOne K (.ref (Y e)) (.ref C) = some b) : EvX K (tCB (rIsX K) (tCons ta (tCons (tC (.ref C)) tNil))) G b G1 := fun B S0 S σ H F k Q q =>
  ha B S0 S σ H F k _ fun v S1 H1 e1 k1 r1 => by
    obtain ⟨p, ep, hp⟩ := r1
    exact ⟨p, Y e, .ref C, .ref C, b, by rw [ep], x.c, k1.sub _ _ hp, fun u r => r, hk, q _ S1 H1 e1 k1 rfl⟩
theorem ev_isXb {e : XC} {T : String} {b : Bool} (x : XCls K mg nm (Y e)) (ha : EvX K ta G (Exc.mk (Y := Y) e) G1) (hk : PySem.W.kitOne K (.ref (Y e)) (.type T) = some b) : EvX K (tCB (rIsX K) (tCons ta (tCons (tC (.ty T)) tNil))) G b G1 := fun B S0 S σ H F k Q q =>
  ha B S0 S σ H F k _ fun v S1 H1 e1 k1 r1 => by
    obtain ⟨p, ep, hp⟩ := r1
    exact ⟨p, Y e, .ty T, .type T, b, by rw [ep], x.c, k1.sub _ _ hp, fun u r => r, hk, q _ S1 H1 e1 k1 rfl⟩
theorem ev_isXs {e : XC} {cs : List Addr} {b : Bool} {tc : TA} (x : XCls K mg nm (Y e)) (ha : EvX K ta G (Exc.mk (Y := Y) e) G1) (hc : ∀ (σ : L2.St) (H : Hp) (Q : List V → Hp → Prop), Q (cs.map V.ref) H → tc σ H Q) (hl : cs.length ≤ 100) (hk : PySem.W.kitAny K (.ref (Y e)) (cs.map Value.ref) = some b) :
    EvX K (tCB (rIsXs K) (tCons ta (tCons (tTup tc) tNil))) G b G1 := fun B S0 S σ H F k Q q =>
  ha B S0 S σ H F k _ fun v S1 H1 e1 k1 r1 => hc _ _ _ ⟨by rw [List.length_map]; exact le_line (by omega), fun tp ht => by
    obtain ⟨p, ep, hp⟩ := r1
    have e2 := same_new (o := .tup (cs.map V.ref)) (k1.free ht).1
    refine ⟨p, Y e, tp, cs, b, by rw [ep], x.c, ?_, upd_same, hk, q _ _ _ (e1.trans e2) (k1.new ht) rfl⟩
    rw [upd_ne (ne_of_none (k1.sub _ _ hp) ht)]
    exact k1.sub _ _ hp⟩
/-! ### defs that raise -/
/-- from packed arguments a value, or a refusal; nothing else changes -/
def spX [PyA α] [Py β] (K : Fg) (Y : XC → Addr) (f : α → XC ⊕ β) (pre : α → Prop) : Sp := fun vs H Q E => ∃ (S : Hp) (a : α), Same S H ∧ PyA.rep K S vs a ∧ pre a ∧
  (∀ y, f a = .inr y → ∀ v S' H', Grow S H S' H' → Py.rep K S' v y → Q v H') ∧ ∀ e, f a = .inl e → ∀ S' H', Grow S H S' H' → E (.ref (Y e)) none H'
variable {W : WX}
theorem q_setX [PyA α] [Py β] {f : α → XC ⊕ β} {pre : α → Prop} {a : α} (i : Nat) (ha : EvA K t G a G1) (hp : pre a) (hi : G1[i]?.isSome = true) (ok : ∀ y, f a = .inr y → At K B S0 (u D) (G1.set i (.im y))) (er : ∀ e, f a = .inl e → At K B S0 (W (.ref (Y e)) none) G1) :
    At K B S0 (tSeq (tAsg (tCallS (spX K Y f pre) (WE W) t) (gName i)) u D) G := fun S σ H F kn =>
  ha B S0 S σ H F kn _ fun vs S1 H1 e1 k1 r1 => ⟨S1, a, k1.sub, r1, hp, fun y ey v S2 H2 g r2 => ok y ey S2 _ H2 _ ((k1.grow g).set r2 hi), fun e ee S2 H2 g => er e ee S2 σ H2 F (k1.grow g)⟩
/-- the call's value isn't kept -/
theorem q_dropX [PyA α] [Py β] {f : α → XC ⊕ β} {pre : α → Prop} {a : α} (ha : EvA K t G a G1) (hp : pre a) (ok : ∀ y, f a = .inr y → At K B S0 (u D) G1) (er : ∀ e, f a = .inl e → At K B S0 (W (.ref (Y e)) none) G1) :
    At K B S0 (tSeq (tDrop (tCallS (spX K Y f pre) (WE W) t)) u D) G := fun S σ H F kn =>
  ha B S0 S σ H F kn _ fun vs S1 H1 e1 k1 r1 => ⟨S1, a, k1.sub, r1, hp, fun y ey v S2 H2 g r2 => ok y ey S2 σ H2 F (k1.grow g), fun e ee S2 H2 g => er e ee S2 σ H2 F (k1.grow g)⟩
theorem q_retX [PyA α] [Py β] {f : α → XC ⊕ β} {pre : α → Prop} {a : α} (ha : EvA K t G a G1) (hp : pre a) (ok : ∀ y, f a = .inr y → RT K B S0 D.rt y G1) (er : ∀ e, f a = .inl e → At K B S0 (W (.ref (Y e)) none) G1) :
    At K B S0 (tSeq (tRet (tCallS (spX K Y f pre) (WE W) t)) u D) G := fun S σ H F kn =>
  ha B S0 S σ H F kn _ fun vs S1 H1 e1 k1 r1 => ⟨S1, a, k1.sub, r1, hp, fun y ey v S2 H2 g r2 => ok y ey S2 σ H2 F v (k1.grow g) r2, fun e ee S2 H2 g => er e ee S2 σ H2 F (k1.grow g)⟩
/-- raise X('..') -/
def tRaiseX (C : Addr) (W : WX) : TS := fun _ σ H => W (.ref C) none σ H
theorem q_raise {C : Addr} (h : At K B S0 (W (.ref C) none) G) : At K B S0 (tSeq (tRaiseX C W) u D) G := h
/-! ### try -/
/-- the clause meets it: its suite goes on, the refusal at the clause's name -/
theorem at_keep {e : XC} {c : Value} {ts : TS} (hm : PySem.W.exmOne K (.ref (Y e)) c = some true) (hi : G[i]?.isSome = true) (h : At K B S0 (ts (noSlot i D)) (G.set i (.im (Exc.mk (Y := Y) e)))) : At K B S0 (wKeep K c i ts D (.ref (Y e)) none) G := fun S σ H F kn =>
  ⟨hm, fun a na => h _ _ _ F ((kn.new na).set (x := Exc.mk (Y := Y) e) ⟨a, rfl, upd_same⟩ hi)⟩
theorem at_keep0 {e : XC} {c : Value} {ts : TS} (hm : PySem.W.exmOne K (.ref (Y e)) c = some true) (h : At K B S0 (ts D) G) : At K B S0 (wKeep0 K c ts D (.ref (Y e)) none) G := fun S σ H F kn =>
  ⟨hm, fun a na => h _ _ _ F (kn.new na)⟩
theorem at_off (h : At K B S0 D.nx (G.set i .no)) : At K B S0 (noSlot i D).nx G := fun S σ H F kn => h S _ H F kn.setNo
end
/-! ### the promise of a def that raises -/
structure CalX (P : Program) (w : World) (K : Fg) (mg : Str → Option Value) (base : Heap) (k : Nat) (x : Str) (ps : List Str) (sp : Sp) : Prop where
  ex : ∃ (f : Addr) (fd : FuncData), mg x = some (.ref f) ∧ FnOk P w K mg base (L2.CX P w) k f fd ps sp ∧ PySem.W.keepIn K (.ref f) = true ∧ Binds K fd ps []
theorem pe_calX {X : Cx} {j k : Nat} {x : Str} {ps : List Str} {sp : Sp} {e : Expr} {es : List Expr} {t : TA} {p pos : Pos} {W : WX} (c : CalX X.prog X.w X.K X.mg X.base k x ps sp) (tk : Takes X W) (hr : Room j X.A) (hk : k ≤ j) (hg : Gl X x) (ha : PA X (e :: es) t)
    (hd : (x == ("__debug__" : Str)) = false := by decide) (hs : starEach (e :: es) X.env = (false, eval e X.env) :: starEach es X.env := by rfl) (hpl : (backTo pos (starEach es X.env)).any (·.1) = false := by rfl) :
    PE X (.Call (.Name x p) (e :: es) [] pos) (tCallS sp (WE W) t) := by
  obtain ⟨f, fd, a, b, c, d⟩ := c.ex
  exact pe_callS b (hr.mono hk) hg a c d (fun σ => passAt tk σ) ha hd hs hpl
theorem ps_raiseX {X : Cx} {W : WX} {nm m : Str} {j : Nat} {p p2 pos pos2 : Pos} {C : Addr} (x : XCls X.K X.mg nm C) (hc : X.calm = true) (tk : Takes X W) (hg : Gl X nm) (hdb : (nm == ("__debug__" : Str)) = false := by decide) :
    PS X (.Raise (some (.Call (.Name nm p) [.Constant (.str m) j p2] [] pos)) none pos2) (tRaiseX C W) := ps_raise hc tk (pmk_own PySem.F.excBase_ValueError x.x x.g x.kp (raises_own x.hs x.ty) hg hdb)
section
variable {P : Program} {w : World} {K : Fg} {mg : Str → Option Value} {base : Heap} {α β : Type} [Sls α] [Py β] {Y : XC → Addr}
theorem def_spX {x : Str} {st : Stmt} {N ps : List Str} {k : Nat} {f : α → XC ⊕ β} {pre : α → Prop} (D : Def K mg x st ps) (S : FnScope N ps (defScope st)) (hn : PyA.n α = ps.length)
    (h : ∀ (fa : Addr) (cdv : Value) (A : Around) (outer : List Env) (s : Shared) (H : Hp) (E : XK), Room k (A.deeper (envOfC x (defScope st) s.heap.objs.size fa cdv)) →
      ∃ t, PSs (cxOf (L2.CX P w) P w K mg base N x (defScope st) fa cdv A outer s H E) (defBody st) t ∧
        ∀ (a : α), pre a → ∀ (B S0 : Hp) (Q : VK), (∀ G' y, f a = .inr y → RT K B S0 Q y G') → (∀ G' e, f a = .inl e → At K B S0 (fun _ H' => E (.ref (Y e)) none H') G') → At K B S0 (t { nx := fun _ H' => Q .non H', rt := Q }) (Sls.sls a ++ List.replicate (N.length - PyA.n α) .no)) :
    CalX P w K mg base (k + 1) x ps (spX K Y f pre) := by
  obtain ⟨fa, fd, m, F, b⟩ := D.ex
  refine ⟨fa, fd, m, F.okX S (fun vs H Q E ⟨S, a, _, r, _⟩ => (PyA.len r).trans hn) fun cdv A outer s H vs Q E hr ⟨S', a, e, r, hp, q, qe⟩ => ?_, F.kp, b⟩
  obtain ⟨t, h1, h2⟩ := h fa cdv A outer s H E hr
  exact ⟨t, h1, h2 a hp H S' Q (fun G' y ey S1 σ1 H1 F1 v k1 r1 => q y ey v S1 H1 ⟨k1.s0, k1.sub, k1.keep, k1.clean⟩ r1) (fun G' x ex S1 σ1 H1 F1 k1 => qe x ex S1 H1 ⟨k1.s0, k1.sub, k1.keep, k1.clean⟩) S' _ H _ (start_kn e r)⟩
end
end GL

/-! Loops in which an owned list is lent for a while, told things are changed, and the list is one's own again. -/
namespace GL
open PySem PySem.Spec PyProof.Rows L2
structure Lnt (α : Type) where
  B : Hp
  S1 : Hp
  SL : Hp
  x : List α
instance {α : Type} [Py α] : Py (Lnt α) := ⟨fun K S v y => ∃ q vs, v = .ref q ∧ y.SL = upd y.S1 q (.lst vs) ∧ y.S1 q = none ∧ y.B q = none ∧ RepL K y.S1 vs y.x ∧ Same y.SL S, fun e ⟨q, vs, h1, h2, h3, h4, h5, h6⟩ => ⟨q, vs, h1, h2, h3, h4, h5, h6.trans e⟩⟩
section
variable {K : Fg} {B S0 S1 S S' SL D : Hp} {σ : L2.St} {H H' : Hp} {F : Nat → List Addr} {G G' G1 G2 G3 : List Sl} {ta tb tc te : TE} {i j : Nat} {t u : TS} {E : Ends}
theorem EvX.unN {α : Type} [Py α] {w : Lnt α} (h : EvX K te G w G1) : EvX K te G w.x G1 := fun B S0 S σ H F k Q q => h B S0 S σ H F k Q fun v S' H' e k' r => q v S' H' e k' (by
  obtain ⟨p, vs, h1, h2, h3, h4, h5, h6⟩ := r
  have e1 : Same w.S1 w.SL := by rw [h2]; exact same_new h3
  exact ⟨p, vs, h1, h6 _ _ (by rw [h2]; exact upd_same), h5.mono (e1.trans h6)⟩)
/-- an owned list is lent -/
theorem Kn.lend {δ : Type} [Py δ] {x : List δ} (k : Kn K B S1 S1 σ H F G) (h : G[i]? = some (.ow x)) : ∃ SL, Same S1 SL ∧ Kn K B SL SL σ H (upF F i []) (G.set i (.im (Lnt.mk B S1 SL x))) := by
  obtain ⟨v, hv, p, vs, rfl, hp, h1, h2⟩ := k.ow h
  obtain ⟨hs, hb, _⟩ := k.off i p (by rw [hp]; exact List.mem_singleton.mpr rfl)
  have k1 : Kn K B S1 S1 σ H (upF F i []) (G.set i .no) := by
    refine ⟨k.s0, k.sub, k.keep, k.clean, fun j q hq => ?_, fun a b q ha hb' => ?_, by rw [List.length_set]; exact k.len, fun j s e => ?_⟩
    · by_cases e : j = i
      · rw [e, upF_self] at hq
        cases hq
      · rw [upF_ne e] at hq
        exact k.off j q hq
    · by_cases ea : a = i
      · rw [ea, upF_self] at ha
        cases ha
      · by_cases eb : b = i
        · rw [eb, upF_self] at hb'
          cases hb'
        · rw [upF_ne ea] at ha
          rw [upF_ne eb] at hb'
          exact k.dj a b q ha hb'
    · rcases set_get e with ⟨rfl, rfl⟩ | ⟨ne, e⟩
      · exact True.intro
      · rw [upF_ne ne]
        exact k.sl j s e
  have hf : ∀ j, p ∉ upF F i [] j := fun j hj => by
    by_cases e : j = i
    · rw [e, upF_self] at hj
      cases hj
    · rw [upF_ne e] at hj
      exact e (k.dj j i p hj (by rw [hp]; exact List.mem_singleton.mpr rfl))
  have k2 := (k1.settle h1 hs hb hf).reb
  have hl : i < G.length := (List.getElem?_eq_some_iff.mp h).1
  have k3 := k2.set (i := i) (v := .ref p) (x := Lnt.mk B S1 (upd S1 p (.lst vs)) x) ⟨p, vs, rfl, rfl, hs, hb, h2, Same.refl _⟩ (by rw [List.getElem?_set_self hl]; rfl)
  have e1 : σ.set i (some (.ref p)) = σ := by
    apply List.ext_getElem?
    intro j
    by_cases e : i = j
    · subst e
      rw [List.getElem?_set_self (by rw [← k.len]; exact hl)]
      exact hv.symm
    · rw [List.getElem?_set_ne e]
  rw [e1, List.set_set] at k3
  exact ⟨upd S1 p (.lst vs), same_new hs, k3⟩
/-- what is left of the state where the settled heap goes back to S, a lent thing among it -/
inductive ThX (S : Hp) : List Sl → List Sl → Prop
  | n : ThX S [] []
  | k {α : Type} [Py α] {x : α} {S' : Hp} {G G' : List Sl} (h : Same S' S) : ThX S G G' → ThX S (.im (At1.mk S' x) :: G) (.im (At1.mk S' x) :: G')
  | l {α : Type} [Py α] {x : List α} {B S' : Hp} {G G' : List Sl} : ThX S G G' → ThX S (.im (Lnt.mk B S' S x) :: G) (.im (Lnt.mk B S' S x) :: G')
  | o {α : Type} [Own α] [OwnI α] {x : α} {G G' : List Sl} : ThX S G G' → ThX S (.ow x :: G) (.ow x :: G')
  | d {s : Sl} {G G' : List Sl} : ThX S G G' → ThX S (.no :: G) (s :: G')
theorem ThX.len {G G' : List Sl} (h : ThX S G G') : G.length = G'.length := by
  induction h with
  | n => rfl
  | k _ _ ih => rw [List.length_cons, List.length_cons, ih]
  | l _ ih => rw [List.length_cons, List.length_cons, ih]
  | o _ ih => rw [List.length_cons, List.length_cons, ih]
  | d _ ih => rw [List.length_cons, List.length_cons, ih]
theorem ThX.get {G G' : List Sl} (t : ThX S G G') : ∀ (i : Nat) (s : Sl), G[i]? = some s → ∃ s', G'[i]? = some s' ∧ ∀ (K : Fg) (S2 H H' : Hp) (sv : Option (Option V)) (ps : List Addr), (∀ p ∈ ps, H' p = H p) → SlOk K S2 H sv ps s' → SlOk K S H' sv ps s := by
  induction t with
  | n => intro i s e; simp at e
  | k h t ih =>
    intro i s e
    cases i with
    | zero =>
      simp only [List.getElem?_cons_zero, Option.some.injEq] at e
      subst e
      exact ⟨_, rfl, fun K S2 H H' sv ps hH ⟨v, h1, h2, h3⟩ => ⟨v, h1, h2, h⟩⟩
    | succ i => simpa using ih i s (by simpa using e)
  | l t ih =>
    intro i s e
    cases i with
    | zero =>
      simp only [List.getElem?_cons_zero, Option.some.injEq] at e
      subst e
      exact ⟨_, rfl, fun K S2 H H' sv ps hH ⟨v, h1, q, vs, a1, a2, a3, a4, a5, a6⟩ => ⟨v, h1, q, vs, a1, a2, a3, a4, a5, Same.refl _⟩⟩
    | succ i => simpa using ih i s (by simpa using e)
  | o t ih =>
    intro i s e
    cases i with
    | zero =>
      simp only [List.getElem?_cons_zero, Option.some.injEq] at e
      subst e
      exact ⟨_, rfl, fun K S2 H H' sv ps hH ⟨v, h1, h2⟩ => ⟨v, h1, Own.mono (Same.refl _) hH (OwnI.go h2)⟩⟩
    | succ i => simpa using ih i s (by simpa using e)
  | d t ih =>
    intro i s e
    cases i with
    | zero =>
      simp only [List.getElem?_cons_zero, Option.some.injEq] at e
      subst e
      exact ⟨_, rfl, fun K S2 H H' sv ps hH _ => True.intro⟩
    | succ i => simpa using ih i s (by simpa using e)
theorem Kn.thawX {p : Addr} {o o' : HO} {G2 : List Sl} (k : Kn K B S0 S σ H F G) (hp : S p = some o') (h0 : S0 p = none) (t : ThX S0 G2 G) : Kn K B S0 S0 σ (upd H p o) F G2 := by
  have hb : B p = none := by
    cases e : B p with
    | none => rfl
    | some x =>
      have := k.clean p x e
      rw [hp, h0] at this
      cases this
  have hF : ∀ i q, q ∈ F i → q ≠ p := fun i q hq e => by
    have := (k.off i q hq).1
    rw [e, hp] at this
    cases this
  refine ⟨Same.refl _, fun q x e => ?_, fun q x e => ?_, fun _ _ _ => rfl, fun i q hq => ?_, k.dj, t.len.trans k.len, fun i s e => ?_⟩
  · rw [upd_ne (ne_of_none e h0)]
    exact k.sub q x (k.s0 q x e)
  · rw [upd_ne (ne_of_none e hb)]
    exact k.keep q x e
  · obtain ⟨h1, h2, w, h3⟩ := k.off i q hq
    exact ⟨k.s0.free h1, h2, w, by rw [upd_ne (hF i q hq)]; exact h3⟩
  · obtain ⟨s', h1, h2⟩ := t.get i s e
    exact h2 K S H _ _ _ (fun q hq => upd_ne (hF i q hq)) (k.sl i s' h1)
theorem q_clrX {α : Type} [Py α] {xs : List α} {D : Ends} {G3 : List Sl} (h : EvX K te G (Fx.mk S0 xs) G1) (t : ThX S0 G3 G1) (k : At K B S0 (u D) G3) : At K B S0 (tSeq (tDrop (tBM0 K "list" rClear te)) u D) G := fun S σ H F kn =>
  h B S0 S σ H F kn _ fun v S1 H1 e1 k1 r1 => by
    obtain ⟨⟨p, vs, rfl, hp, hr⟩, p', ep, h0⟩ := r1
    cases ep
    exact ⟨.inl ⟨rfl, _, SqL.of (k1.sub _ _ hp)⟩, p, vs, rfl, rfl, k1.sub _ _ hp, k S0 σ _ F (k1.thawX hp h0 t)⟩
theorem q_appX {α β : Type} [Py α] [Py β] {xs : List α} {D : Ends} {y : β} {G3 : List Sl} (h : EvX K te G (Fx.mk S0 xs) G1) (hy : EvX K ta G1 y G2) (hz : xs.length < 1000000) (t : ThX S0 G3 G2) (k : At K B S0 (u D) G3) : At K B S0 (tSeq (tDrop (tBM K "list" rAppend te (tCons ta tNil))) u D) G := fun S σ H F kn =>
  h B S0 S σ H F kn _ fun v S1 H1 e1 k1 r1 => by
    obtain ⟨⟨p, vs, rfl, hp, hr⟩, p', ep, h0⟩ := r1
    cases ep
    exact ⟨.inl ⟨rfl, _, SqL.of (k1.sub _ _ hp)⟩, hy B S0 S1 σ H1 F k1 _ fun w S2 H2 e2 k2 r2 => ⟨p, vs, w, rfl, rfl, k2.sub _ _ (e2 _ _ hp), by rw [hr.len]; exact Nat.lt_trans hz (by decide), k S0 σ _ F (k2.thawX (e2 _ _ hp) h0 t)⟩⟩
/-- what stays where a lent list is one's own again -/
inductive Kp (S : Hp) : Sl → Sl → Prop
  | k {α : Type} [Py α] {x : α} : Kp S (.im (At1.mk S x)) (.im (At1.mk S x))
  | o {α : Type} [Own α] [OwnI α] {x : α} : Kp S (.ow x) (.ow x)
  | d {s : Sl} : Kp S .no s
theorem Kp.ok {s s' : Sl} {S2 : Hp} {sv : Option (Option V)} {ps : List Addr} (h : Kp S s s') (q : SlOk K S2 H sv ps s') : SlOk K S H sv ps s := by
  cases h with
  | k =>
    obtain ⟨v, h1, h2, h3⟩ := q
    exact ⟨v, h1, h2, Same.refl _⟩
  | o =>
    obtain ⟨v, h1, h2⟩ := q
    exact ⟨v, h1, OwnI.go h2⟩
  | d => exact True.intro
inductive Kps (S : Hp) : List Sl → List Sl → Prop
  | n : Kps S [] []
  | c {s s' : Sl} {G G' : List Sl} : Kp S s s' → Kps S G G' → Kps S (s :: G) (s' :: G')
theorem Kps.len {G G' : List Sl} (h : Kps S G G') : G.length = G'.length := by
  induction h with
  | n => rfl
  | c _ _ ih => rw [List.length_cons, List.length_cons, ih]
theorem Kps.get {G G' : List Sl} (t : Kps S G G') : ∀ (i : Nat) (s : Sl), G[i]? = some s → ∃ s', G'[i]? = some s' ∧ Kp S s s' := by
  induction t with
  | n => intro i s e; simp at e
  | c h t ih =>
    intro i s e
    cases i with
    | zero =>
      simp only [List.getElem?_cons_zero, Option.some.injEq] at e
      subst e
      exact ⟨_, rfl, h⟩
    | succ i => simpa using ih i s (by simpa using e)
theorem at_unlend {δ : Type} [Py δ] {xs : List δ} {P : L2.St → Hp → Prop} (hi : G[i]? = some (.im (Lnt.mk B S1 SL xs))) (t : Kps S1 (G2.set i .no) G) (h2 : G2[i]? = some (.ow xs)) (k : At K B S1 P G2) : At K B SL P G := fun S σ H F kn => by
  obtain ⟨v, hv, q, vs, rfl, hSL, hq1, hqB, hr, hS⟩ := kn.im hi
  dsimp only at hSL hq1 hqB hr hS
  have e1 : Same S1 SL := by rw [hSL]; exact same_new hq1
  have hSq : S q = some (.lst vs) := hS _ _ (by rw [hSL]; exact upd_same)
  have hqF : ∀ j, q ∉ F j := fun j hj => by
    have := (kn.off j q hj).1
    rw [hSq] at this
    cases this
  have hl : G2.length = G.length := by have := t.len; rw [List.length_set] at this; exact this
  refine k S1 σ H (upF F i [q]) ⟨Same.refl _, (e1.trans hS).trans kn.sub, kn.keep, fun _ _ _ => rfl, fun j p hp => ?_, fun a b p ha hb => ?_, hl.trans kn.len, fun j s e => ?_⟩
  · by_cases z : j = i
    · rw [z, upF_self] at hp
      rw [List.mem_singleton.mp hp]
      exact ⟨hq1, hqB, _, kn.sub _ _ hSq⟩
    · rw [upF_ne z] at hp
      obtain ⟨a1, a2, a3⟩ := kn.off j p hp
      exact ⟨(e1.trans hS).free a1, a2, a3⟩
  · by_cases za : a = i
    · by_cases zb : b = i
      · rw [za, zb]
      · rw [za, upF_self] at ha
        rw [upF_ne zb, List.mem_singleton.mp ha] at hb
        exact absurd hb (hqF b)
    · rw [upF_ne za] at ha
      by_cases zb : b = i
      · rw [zb, upF_self] at hb
        rw [List.mem_singleton.mp hb] at ha
        exact absurd ha (hqF a)
      · rw [upF_ne zb] at hb
        exact kn.dj a b p ha hb
  · by_cases z : j = i
    · subst z
      rw [h2] at e
      cases e
      rw [upF_self]
      exact ⟨.ref q, hv, q, vs, rfl, rfl, kn.sub _ _ hSq, hr⟩
    · rw [upF_ne z]
      obtain ⟨s', h3, h4⟩ := t.get j s (by rw [List.getElem?_set_ne (fun w => z w.symm)]; exact e)
      exact h4.ok (kn.sl j s' h3)
/-- forgetting, and that a thing stood at the base -/
inductive LeU : List Sl → List Sl → Prop
  | n : LeU [] []
  | k {s : Sl} {G G' : List Sl} : LeU G G' → LeU (s :: G) (s :: G')
  | d {s : Sl} {G G' : List Sl} : LeU G G' → LeU (.no :: G) (s :: G')
  | t {α : Type} [Py α] {x : α} {S : Hp} {G G' : List Sl} : LeU G G' → LeU (.im x :: G) (.im (At1.mk S x) :: G')
theorem LeU.len {G G' : List Sl} (h : LeU G G') : G.length = G'.length := by
  induction h with
  | n => rfl
  | k _ ih => rw [List.length_cons, List.length_cons, ih]
  | d _ ih => rw [List.length_cons, List.length_cons, ih]
  | t _ ih => rw [List.length_cons, List.length_cons, ih]
theorem LeU.get {G G' : List Sl} (t : LeU G G') : ∀ (i : Nat) (s : Sl), G[i]? = some s → ∃ s', G'[i]? = some s' ∧ ∀ (K : Fg) (S H : Hp) (sv : Option (Option V)) (ps : List Addr), SlOk K S H sv ps s' → SlOk K S H sv ps s := by
  induction t with
  | n => intro i s e; simp at e
  | k t ih =>
    intro i s e
    cases i with
    | zero => exact ⟨s, e, fun _ _ _ _ _ h => h⟩
    | succ i => simpa using ih i s (by simpa using e)
  | d t ih =>
    intro i s e
    cases i with
    | zero =>
      simp only [List.getElem?_cons_zero, Option.some.injEq] at e
      subst e
      exact ⟨_, rfl, fun _ _ _ _ _ _ => True.intro⟩
    | succ i => simpa using ih i s (by simpa using e)
  | t t ih =>
    intro i s e
    cases i with
    | zero =>
      simp only [List.getElem?_cons_zero, Option.some.injEq] at e
      subst e
      exact ⟨_, rfl, fun _ _ _ _ _ ⟨v, h1, h2, h3⟩ => ⟨v, h1, Py.mono h3 h2⟩⟩
    | succ i => simpa using ih i s (by simpa using e)
theorem Kn.leU {G' : List Sl} (k : Kn K B S0 S σ H F G) (h : LeU G' G) : Kn K B S0 S σ H F G' :=
  ⟨k.s0, k.sub, k.keep, k.clean, k.off, k.dj, h.len.trans k.len, fun i s e => by
    obtain ⟨s', h1, h2⟩ := h.get i s e
    exact h2 _ _ _ _ _ (k.sl i s' h1)⟩
theorem at_midU {P : List Sl → Prop} (h : LeU G' G) (p : P G') : At K B S0 (Mid K B S0 P) G := fun S σ H F k => ⟨S, F, G', k.leU h, p⟩
/-- a loop in each turn of which the owned list of slot i is lent at first -/
theorem qg_invB {α τ δ : Type} [Py α] [Py δ] {wi : TI} {g : TG} {tb : TS} {its : List α} (i : Nat) (γ : τ → List Sl) (xs : τ → List δ) (I : List α → τ → Prop) (s0 : τ) (hi : ItG K wi G its G1) (h0 : Le (γ s0) G1) (hI : I [] s0) (hx : ∀ s, (γ s)[i]? = some (.ow (xs s)))
    (hs : ∀ pre x post s, pre ++ x :: post = its → I pre s → ∀ S1 SL, Reb B S0 S1 → Same S1 SL → ∃ G2 ts, TgG K g x (((γ s).map (frz S1)).set i (.im (Lnt.mk B S1 SL (xs s)))) G2 ts ∧ At K B SL (tb { E with nx := Mid K B S1 (fun G' => ∃ s', G' = γ s' ∧ I (pre ++ [x]) s'), ct := Mid K B S1 (fun G' => ∃ s', G' = γ s' ∧ I (pre ++ [x]) s'), bk := u E }) G2)
    (hd : ∀ s, I its s → At K B S0 (u E) (γ s)) : At K B S0 (tSeq (tFor wi g tb) u E) G := fun S σ H F kn =>
  hi B S0 S σ H F kn _ fun J Si H1 e1 k1 wk => by
    have rb : Reb B S0 Si := k1.rebOf
    refine ⟨fun i m σ H => ∃ pre post S F s, pre ++ post = its ∧ pre.length = i ∧ post.length = m ∧ Kn K B Si S σ H F (γ s) ∧ I pre s, ⟨its.length, [], its, Si, F, s0, rfl, rfl, rfl, (k1.le h0).reb, hI⟩, ?_⟩
    rintro ii m σ' H' ⟨pre, post, S2, F2, s, ex, rfl, rfl, k2, p⟩
    cases post with
    | nil =>
      refine .inl ⟨(wk S2 H' pre.length k2.s0 k2.sub).2 (by rw [← ex, List.append_nil]; exact Nat.le_refl _), ?_⟩
      rw [List.append_nil] at ex
      subst ex
      exact hd s p S2 σ' H' F2 (k2.unreb rb)
    | cons x post =>
      have hx' : its[pre.length]? = some x := by
        rw [← ex, List.getElem?_append_right (Nat.le_refl _), Nat.sub_self]
        rfl
      have rb2 : Reb B Si S2 := k2.rebOf
      have kf := k2.frz
      obtain ⟨SL, eL, kL⟩ := kf.lend (i := i) (x := xs s) (by rw [List.getElem?_map, hx s]; rfl)
      obtain ⟨go, yl⟩ := (wk SL H' pre.length (k2.s0.trans eL) kL.sub).1 x hx'
      refine .inr ⟨go, Mid K B S2 (fun G' => ∃ s', G' = γ s' ∧ I (pre ++ [x]) s'), ?_, ?_⟩
      · rintro σ3 H3 ⟨S3, F3, G3, k3, s3, e3, p3⟩
        subst e3
        exact ⟨post.length, by rw [List.length_cons]; omega, pre ++ [x], post, S3, F3, s3, by rw [← ex, List.append_assoc]; rfl, by rw [List.length_append]; rfl, rfl, k3.unreb rb2, p3⟩
      · intro v H3 y
        obtain ⟨S3, gr, r⟩ := yl v H3 y
        obtain ⟨G2, ts, tg, bd⟩ := hs pre x post s ex p S2 SL (rb.trans rb2) eL
        exact tg.2 B SL S3 σ' H3 _ v (kL.grow gr) r _ fun σ4 k4 _ _ => bd S3 σ4 H3 _ k4
end
end GL

/-! What a carried program's methods do to it. -/
namespace L2
open PySem PySem.Spec PyProof.Rows
section
variable {X : Cx}
/-- as pe_fld, inside a comprehension -/
theorem pe_fldK {K : PySem.W.Frag} {e : Expr} {f : Str} {pos : Pos} {ta : TE} (hK : X.K = K) (he : PE X e ta) (hb : attributeBase e f X.env (eval e X.env) = eval e X.env) : PE X (.Attribute e f pos) (tFld K ta f) := by
  subst hK
  exact pe_fld he hb
/-- d != {} -/
def rNeE : R2 := fun x y H Q => ∃ a b ks, x = .ref a ∧ y = .ref b ∧ H a = some (.dK ks) ∧ H b = some (.dK []) ∧ Q (.bl (!ks.isEmpty)) H
theorem op_neE (hu : X.A.units < cLine) : OpR X (compareOp .NotEq) rNeE := by
  intro pins s σ H x y v u Q I rx ry h
  obtain ⟨a, b, ks, rfl, rfl, ea, eb, q⟩ := h
  obtain rfl : v = Value.ref a := rx
  obtain rfl : u = Value.ref b := ry
  obtain ⟨_, ya, va, ra, da⟩ := (show ObjOk X.prog X.w H s.heap a (.dK ks) from I.hok a _ ea)
  obtain ⟨_, yb, vb, rb, db⟩ := (show ObjOk X.prog X.w H s.heap b (.dK []) from I.hok b _ eb)
  have la : va.length = ks.length := ra.length.symm
  have lb : vb.length = 0 := rb.length.symm
  refine PySem.W.keq_ne (knd := mixKind X.prog X.w) (r := true) ya yb da db hu (fun hl => ?_) (fin_bl I q ?_)
  · cases va with
    | nil => exact .nil
    | cons p va => rw [lb] at hl; cases hl
  · cases ks with
    | nil => rw [List.length_nil] at la; rw [la, lb]; rfl
    | cons p ks => rw [la, lb]; rfl
end
end L2
namespace GL
open PySem PySem.Spec PyProof.Rows L2
theorem fld_mem {f : Str} : ∀ ks : List Str, fIx f ks < ks.length → f ∈ ks := fun ks => by
  induction ks with
  | nil => intro h; exact absurd h (Nat.not_lt_zero _)
  | cons k ks ih =>
    intro h
    unfold fIx at h
    by_cases c : k = f
    · rw [c]; exact List.mem_cons_self
    · rw [if_neg c] at h
      exact List.mem_cons_of_mem _ (ih (by simpa using h))
section
variable {C : Addr} {K : Fg} {S S' H H' : Hp} {z z' : Car C} {dx : Addr} {pv sv : V} {kf kb : List (Key × V)}
theorem CarAt.some (c : CarAt K S H z dx pv sv kf kb) {q : Addr} (h : q ∈ z.fp) : ∃ o, H q = some o := by
  simp only [Car.fp, List.mem_cons, List.mem_nil_iff, or_false] at h
  rcases h with e | e | e | e | e <;> rw [e]
  · exact ⟨_, c.ob⟩
  · exact ⟨_, c.hw⟩
  · exact ⟨_, c.hs⟩
  · exact ⟨_, c.hf⟩
  · exact ⟨_, c.hb⟩
theorem CarAt.setW {l : List Int} (c : CarAt K S H z dx pv sv kf kb) : CarAt K S (upd H z.w (.lst (l.map V.int))) ({ z with wait := l } : Car C) dx pv sv kf kb :=
  ⟨c.cl, c.na, by rw [upd_ne c.ne_w.symm]; exact c.ob, c.rg, c.rs, upd_same, by show upd H z.w _ z.s = _; rw [upd_ne c.d1.symm]; exact c.hs, by show upd H z.w _ z.f = _; rw [upd_ne c.ne_wf.symm]; exact c.hf, c.rf, by show upd H z.w _ z.b = _; rw [upd_ne c.ne_wb.symm]; exact c.hb, c.rb, c.d1, c.d2⟩
theorem CarAt.setS {l : List Int} (c : CarAt K S H z dx pv sv kf kb) : CarAt K S (upd H z.s (.lst (l.map V.int))) ({ z with said := l } : Car C) dx pv sv kf kb :=
  ⟨c.cl, c.na, by rw [upd_ne c.ne_s.symm]; exact c.ob, c.rg, c.rs, by show upd H z.s _ z.w = _; rw [upd_ne c.d1]; exact c.hw, upd_same, by show upd H z.s _ z.f = _; rw [upd_ne c.ne_sf.symm]; exact c.hf, c.rf, by show upd H z.s _ z.b = _; rw [upd_ne c.ne_sb.symm]; exact c.hb, c.rb, c.d1, c.d2⟩
theorem CarAt.setF {d : Dct Bool} {kf' : List (Key × V)} (c : CarAt K S H z dx pv sv kf kb) (r : RepD K S kf' d.l) : CarAt K S (upd H z.f (.dK kf')) ({ z with fresh := d } : Car C) dx pv sv kf' kb :=
  ⟨c.cl, c.na, by rw [upd_ne c.ne_f.symm]; exact c.ob, c.rg, c.rs, by show upd H z.f _ z.w = _; rw [upd_ne c.ne_wf]; exact c.hw, by show upd H z.f _ z.s = _; rw [upd_ne c.ne_sf]; exact c.hs, upd_same, r, by show upd H z.f _ z.b = _; rw [upd_ne c.d2.symm]; exact c.hb, c.rb, c.d1, c.d2⟩
theorem CarAt.setB {d : Dct Bool} {kb' : List (Key × V)} (c : CarAt K S H z dx pv sv kf kb) (r : RepD K S kb' d.l) : CarAt K S (upd H z.b (.dK kb')) ({ z with absent := d } : Car C) dx pv sv kf kb' :=
  ⟨c.cl, c.na, by rw [upd_ne c.ne_b.symm]; exact c.ob, c.rg, c.rs, by show upd H z.b _ z.w = _; rw [upd_ne c.ne_wb]; exact c.hw, by show upd H z.b _ z.s = _; rw [upd_ne c.ne_sb]; exact c.hs, by show upd H z.b _ z.f = _; rw [upd_ne c.d2]; exact c.hf, c.rf, upd_same, r, c.d1, c.d2⟩
end
section
variable {C : Addr} {K : Fg} {B S0 S1 S S' D : Hp} {σ : L2.St} {H H' : Hp} {F : Nat → List Addr} {G G' G1 G2 G3 G4 G5 : List Sl} {ta tb tc td te : TE} {i j l : Nat} {t u : TS} {E : Ends} {z z' : Car C} {dx : Addr} {pv sv : V} {kf kb : List (Key × V)}
theorem car_upd (k : Kn K B S0 S σ H F G) (hi : G[i]? = some (.ow z)) (c : CarAt K S H' z' dx pv sv kf kb) (hf : z'.fp = z.fp) (h : ∀ q, q ∉ z.fp → H' q = H q) : Kn K B S0 S σ H' F (G.set i (.ow z')) := by
  obtain ⟨h1, h2, _⟩ := car_at k hi
  have ha : z'.a = z.a := by
    have := hf
    unfold Car.fp at this
    exact (List.cons.inj this).1
  exact k.mut h1 (fun q hq => h q (by rw [← h2]; exact hq)) (fun q hq => c.some (by rw [hf, ← h2]; exact hq)) ⟨by rw [ha], by rw [h2, hf], dx, pv, sv, kf, kb, c⟩
theorem fp_a {q : Addr} (h : q ∉ z.fp) : q ≠ z.a := fun e => h (by rw [e]; simp [Car.fp])
theorem fp_w {q : Addr} (h : q ∉ z.fp) : q ≠ z.w := fun e => h (by rw [e]; simp [Car.fp])
theorem fp_s {q : Addr} (h : q ∉ z.fp) : q ≠ z.s := fun e => h (by rw [e]; simp [Car.fp])
theorem fp_f {q : Addr} (h : q ∉ z.fp) : q ≠ z.f := fun e => h (by rw [e]; simp [Car.fp])
theorem fp_b {q : Addr} (h : q ∉ z.fp) : q ≠ z.b := fun e => h (by rw [e]; simp [Car.fp])
/-! fields set -/
theorem q_fld {α : Type} [Py α] {x : α} {f : Str} (n : Nat) (z' : Car C) (hn : fIx f carK = n) (hl : n < 12) (h : EvX K te G x G1) (hi : G1[i]? = some (.ow z)) (hf : z'.fp = z.fp)
    (step : ∀ {S H : Hp} {dx : Addr} {pv sv : V} {kf kb : List (Key × V)} {v : V}, CarAt K S H z dx pv sv kf kb → Py.rep K S v x → ∃ pv' sv', CarAt K S (upd H z.a (.ins C dx (putF f v (carK.zip (carV z pv sv))))) z' dx pv' sv' kf kb)
    (k : At K B S0 (u E) (G1.set i (.ow z'))) : At K B S0 (tSeq (sFld K (tVar i) te f) u E) G := fun S σ H F kn =>
  h B S0 S σ H F kn _ fun v S1 H1 e1 k1 r1 => by
    obtain ⟨h1, h2, dx, pv, sv, kf, kb, c⟩ := car_at k1 hi
    obtain ⟨pv', sv', c'⟩ := step c r1
    exact ⟨.ref z.a, h1, z.a, C, dx, _, rfl, c.ob, c.cl, c.na f (fld_mem _ (by rw [hn]; exact hl)), by show (carK.zip (carV z pv sv)).length < 1000; simp [carK, carV], k S1 σ _ F (car_upd k1 hi c' hf fun q hq => upd_ne (fp_a hq))⟩
theorem q_place {x : Int} (h : EvX K te G x G1) (hi : G1[i]? = some (.ow z)) (k : At K B S0 (u E) (G1.set i (.ow ({ z with place := x } : Car C)))) : At K B S0 (tSeq (sFld K (tVar i) te "place") u E) G :=
  q_fld 3 ({ z with place := x } : Car C) (by decide +kernel) (by decide) h hi rfl (fun c r => ⟨_, _, c.set (n := 3) (by decide +kernel) (by decide) (by rw [show _ = V.int x from r]; rfl) rfl rfl rfl rfl rfl rfl rfl rfl rfl c.rg c.rs⟩) k
theorem q_done {x : Int} (h : EvX K te G x G1) (hi : G1[i]? = some (.ow z)) (k : At K B S0 (u E) (G1.set i (.ow ({ z with done := x } : Car C)))) : At K B S0 (tSeq (sFld K (tVar i) te "done") u E) G :=
  q_fld 6 ({ z with done := x } : Car C) (by decide +kernel) (by decide) h hi rfl (fun c r => ⟨_, _, c.set (n := 6) (by decide +kernel) (by decide) (by rw [show _ = V.int x from r]; rfl) rfl rfl rfl rfl rfl rfl rfl rfl rfl c.rg c.rs⟩) k
theorem q_made {x : Int} (h : EvX K te G x G1) (hi : G1[i]? = some (.ow z)) (k : At K B S0 (u E) (G1.set i (.ow ({ z with made := x } : Car C)))) : At K B S0 (tSeq (sFld K (tVar i) te "made") u E) G :=
  q_fld 10 ({ z with made := x } : Car C) (by decide +kernel) (by decide) h hi rfl (fun c r => ⟨_, _, c.set (n := 10) (by decide +kernel) (by decide) (by rw [show _ = V.int x from r]; rfl) rfl rfl rfl rfl rfl rfl rfl rfl rfl c.rg c.rs⟩) k
theorem q_goal {x : Option Int} (h : EvX K te G x G1) (hi : G1[i]? = some (.ow z)) (k : At K B S0 (u E) (G1.set i (.ow ({ z with goal := x } : Car C)))) : At K B S0 (tSeq (sFld K (tVar i) te "goal") u E) G :=
  q_fld 7 ({ z with goal := x } : Car C) (by decide +kernel) (by decide) h hi rfl (fun c r => ⟨_, _, c.set (n := 7) (by decide +kernel) (by decide) (by rw [oV_rep r]; rfl) rfl rfl rfl rfl rfl rfl rfl rfl rfl c.rg c.rs⟩) k
theorem q_is_still {x : Bool} (h : EvX K te G x G1) (hi : G1[i]? = some (.ow z)) (k : At K B S0 (u E) (G1.set i (.ow ({ z with still := x } : Car C)))) : At K B S0 (tSeq (sFld K (tVar i) te "is_still") u E) G :=
  q_fld 8 ({ z with still := x } : Car C) (by decide +kernel) (by decide) h hi rfl (fun c r => ⟨_, _, c.set (n := 8) (by decide +kernel) (by decide) (by rw [show _ = V.bl x from r]; rfl) rfl rfl rfl rfl rfl rfl rfl rfl rfl c.rg c.rs⟩) k
/-! what lies in it -/
theorem fld_ref {f : Str} (n : Nat) (hn : fIx f carK = n) (hl : n < 12) (k : Kn K B S0 S σ H F G) (hi : G[i]? = some (.ow z)) {p : Addr} {Q : VK} (hv : ∀ pv sv, (carV z pv sv)[n]? = some (V.ref p)) (q : Q (.ref p) H) : tFld K (tVar i) f σ H Q := by
  obtain ⟨h1, h2, dx, pv, sv, kf, kb, c⟩ := car_at k hi
  exact ⟨.ref z.a, h1, z.a, C, dx, _, _, rfl, c.ob, c.cl, c.na f (fld_mem _ (by rw [hn]; exact hl)), by rw [look_zip hn hl]; exact hv pv sv, q⟩
theorem at_w {Q : VK} (k : Kn K B S0 S σ H F G) (hi : G[i]? = some (.ow z)) (q : Q (.ref z.w) H) : tFld K (tVar i) "waiting" σ H Q := fld_ref 4 (by decide +kernel) (by decide) k hi (fun _ _ => rfl) q
theorem at_s {Q : VK} (k : Kn K B S0 S σ H F G) (hi : G[i]? = some (.ow z)) (q : Q (.ref z.s) H) : tFld K (tVar i) "spoken" σ H Q := fld_ref 5 (by decide +kernel) (by decide) k hi (fun _ _ => rfl) q
theorem at_f {Q : VK} (k : Kn K B S0 S σ H F G) (hi : G[i]? = some (.ow z)) (q : Q (.ref z.f) H) : tFld K (tVar i) "fresh" σ H Q := fld_ref 9 (by decide +kernel) (by decide) k hi (fun _ _ => rfl) q
theorem at_b {Q : VK} (k : Kn K B S0 S σ H F G) (hi : G[i]? = some (.ow z)) (q : Q (.ref z.b) H) : tFld K (tVar i) "absent" σ H Q := fld_ref 11 (by decide +kernel) (by decide) k hi (fun _ _ => rfl) q
theorem ev_inB_ {n : Int} (hk : EvX K ta G n G) (hi : G[i]? = some (.ow z)) : EvX K (tDIn ta (tFld K (tVar i) "absent")) G (z.absent.get? n).isSome G := fun B S0 S σ H F k Q q =>
  hk B S0 S σ H F k _ fun v S1 H1 e1 k1 r1 => at_b k1 hi (by
    obtain ⟨h1, h2, dx, pv, sv, kf, kb, c⟩ := car_at k1 hi
    rw [show v = .int n from r1]
    exact ⟨z.b, _, rfl, dgetI c.hb, q _ S1 H1 e1 k1 (by rw [c.rb.isSome]; rfl)⟩)
theorem ev_ninB_ {n : Int} (hk : EvX K ta G n G) (hi : G[i]? = some (.ow z)) : EvX K (tDNotIn ta (tFld K (tVar i) "absent")) G (!(z.absent.get? n).isSome) G := fun B S0 S σ H F k Q q =>
  hk B S0 S σ H F k _ fun v S1 H1 e1 k1 r1 => at_b k1 hi (by
    obtain ⟨h1, h2, dx, pv, sv, kf, kb, c⟩ := car_at k1 hi
    rw [show v = .int n from r1]
    exact ⟨z.b, _, rfl, dgetI c.hb, q _ S1 H1 e1 k1 (by rw [c.rb.isSome]; rfl)⟩)
theorem ev_ninF {n : Int} (hk : EvX K ta G n G) (hi : G[i]? = some (.ow z)) : EvX K (tDNotIn ta (tFld K (tVar i) "fresh")) G (!(z.fresh.get? n).isSome) G := fun B S0 S σ H F k Q q =>
  hk B S0 S σ H F k _ fun v S1 H1 e1 k1 r1 => at_f k1 hi (by
    obtain ⟨h1, h2, dx, pv, sv, kf, kb, c⟩ := car_at k1 hi
    rw [show v = .int n from r1]
    exact ⟨z.f, _, rfl, dgetI c.hf, q _ S1 H1 e1 k1 (by rw [c.rf.isSome]; rfl)⟩)
theorem ev_neB (hi : G[i]? = some (.ow z)) : EvX K (tOp rNeE (tFld K (tVar i) "absent") tDNewK) G (!z.absent.l.isEmpty) G := fun B S0 S σ H F k Q q => at_b k hi (by
  intro p hp
  obtain ⟨h1, h2, dx, pv, sv, kf, kb, c⟩ := car_at k hi
  refine ⟨z.b, p, kb, rfl, rfl, by rw [upd_ne (ne_of_none c.hb hp)]; exact c.hb, upd_same, q _ S _ (Same.refl _) (k.raw hp) ?_⟩
  have hl := c.rb.len
  cases kb <;> cases e : z.absent.l <;> rw [e] at hl <;> first | rfl | cases hl)
theorem ev_popW (hi : G[i]? = some (.ow z)) (hx : z.wait ≠ []) : EvX K (tBM K "list" rPopAt (tFld K (tVar i) "waiting") (tCons (tC (.int 0)) tNil)) G (ix z.wait 0) (G.set i (.ow ({ z with wait := z.wait.drop 1 } : Car C))) := fun B S0 S σ H F k Q q => at_w k hi (by
  obtain ⟨h1, h2, dx, pv, sv, kf, kb, c⟩ := car_at k hi
  have hw := c.hw
  cases e : z.wait with
  | nil => exact absurd e hx
  | cons x xs =>
    rw [e] at hw
    refine ⟨.inl ⟨rfl, _, SqL.of hw⟩, z.w, (x :: xs).map V.int, 0, 0, .int x, rfl, rfl, hw, by decide, by decide, ?_, rfl, q _ S _ (Same.refl _) ?_ (by rw [e]; rfl)⟩
    · unfold seqIndex?
      simp
    · have c' := c.setW (l := xs)
      exact car_upd (z' := ({ z with wait := z.wait.drop 1 } : Car C)) k hi (by rw [e]; exact c') rfl fun q hq => upd_ne (fp_w hq))
theorem q_appS {x : Int} (hi : G[i]? = some (.ow z)) (h : EvX K te G x G) (hz : z.said.length < sizeLine) (k : At K B S0 (u E) (G.set i (.ow ({ z with said := z.said ++ [x] } : Car C)))) : At K B S0 (tSeq (tDrop (tBM K "list" rAppend (tFld K (tVar i) "spoken") (tCons te tNil))) u E) G := fun S σ H F kn => by
  unfold tSeq tDrop tBM
  refine at_s kn hi ?_
  obtain ⟨h1, h2, dx, pv, sv, kf, kb, c⟩ := car_at kn hi
  refine ⟨.inl ⟨rfl, _, SqL.of c.hs⟩, h B S0 S σ H F kn _ fun v S1 H1 e1 k1 r1 => ?_⟩
  obtain ⟨h1, h2, dx, pv, sv, kf, kb, c⟩ := car_at k1 hi
  refine ⟨z.s, _, v, rfl, rfl, c.hs, by rw [List.length_map]; exact hz, k S1 σ _ F (car_upd (dx := dx) (pv := pv) (sv := sv) (kf := kf) (kb := kb) k1 hi ?_ rfl fun q hq => upd_ne (fp_s hq))⟩
  rw [show v = .int x from r1, ← List.map_singleton (f := V.int), ← List.map_append]
  exact c.setS
theorem q_appW {x : Int} (hi : G[i]? = some (.ow z)) (h : EvX K te G x G) (hz : z.wait.length < sizeLine) (k : At K B S0 (u E) (G.set i (.ow ({ z with wait := z.wait ++ [x] } : Car C)))) : At K B S0 (tSeq (tDrop (tBM K "list" rAppend (tFld K (tVar i) "waiting") (tCons te tNil))) u E) G := fun S σ H F kn => by
  unfold tSeq tDrop tBM
  refine at_w kn hi ?_
  obtain ⟨h1, h2, dx, pv, sv, kf, kb, c⟩ := car_at kn hi
  refine ⟨.inl ⟨rfl, _, SqL.of c.hw⟩, h B S0 S σ H F kn _ fun v S1 H1 e1 k1 r1 => ?_⟩
  obtain ⟨h1, h2, dx, pv, sv, kf, kb, c⟩ := car_at k1 hi
  refine ⟨z.w, _, v, rfl, rfl, c.hw, by rw [List.length_map]; exact hz, k S1 σ _ F (car_upd (dx := dx) (pv := pv) (sv := sv) (kf := kf) (kb := kb) k1 hi ?_ rfl fun q hq => upd_ne (fp_w hq))⟩
  rw [show v = .int x from r1, ← List.map_singleton (f := V.int), ← List.map_append]
  exact c.setW
theorem pop_no {kvs : List (Key × V)} {n : Int} {p : Addr} (h : valV kvs (Sum.inl n) = none) (e : H p = some (.dK kvs)) : upd H p (.dK (dropK kvs (Sum.inl n))) = H := by
  rw [dropK_no (valV_not h)]
  funext q
  by_cases z : q = p
  · rw [z, upd_same, e]
  · rw [upd_ne z]
theorem q_popF {n : Int} (hi : G[i]? = some (.ow z)) (hk : EvX K tb G n G) (k : At K B S0 (u E) (G.set i (.ow ({ z with fresh := z.fresh.del n } : Car C)))) : At K B S0 (tSeq (tDrop (tDPop2 (tFld K (tVar i) "fresh") tb (tC .non))) u E) G := fun S σ H F kn => by
  unfold tSeq tDrop tDPop2
  refine at_f kn hi ?_
  obtain ⟨h1, h2, dx, pv, sv, kf, kb, c⟩ := car_at kn hi
  refine ⟨z.f, rfl, .inl ⟨kf, .inl c.hf⟩, hk B S0 S σ H F kn _ fun w S2 H2 e2 k2 r2 => ?_⟩
  obtain ⟨h1, h2, dx, pv, sv, kf, kb, c⟩ := car_at k2 hi
  rw [show w = .int n from r2]
  have kd := k S2 σ _ F (car_upd k2 hi (c.setF (d := z.fresh.del n) (c.rf.del n)) rfl fun q hq => upd_ne (fp_f hq))
  refine ⟨kf, Sum.inl n, c.hf, rfl, fun v _ => kd, fun hn => ?_⟩
  rw [pop_no hn c.hf] at kd
  exact kd
theorem q_popB {n : Int} (hi : G[i]? = some (.ow z)) (hk : EvX K tb G n G) (k : At K B S0 (u E) (G.set i (.ow ({ z with absent := z.absent.del n } : Car C)))) : At K B S0 (tSeq (tDrop (tDPop2 (tFld K (tVar i) "absent") tb (tC .non))) u E) G := fun S σ H F kn => by
  unfold tSeq tDrop tDPop2
  refine at_b kn hi ?_
  obtain ⟨h1, h2, dx, pv, sv, kf, kb, c⟩ := car_at kn hi
  refine ⟨z.b, rfl, .inl ⟨kb, .inl c.hb⟩, hk B S0 S σ H F kn _ fun w S2 H2 e2 k2 r2 => ?_⟩
  obtain ⟨h1, h2, dx, pv, sv, kf, kb, c⟩ := car_at k2 hi
  rw [show w = .int n from r2]
  have kd := k S2 σ _ F (car_upd k2 hi (c.setB (d := z.absent.del n) (c.rb.del n)) rfl fun q hq => upd_ne (fp_b hq))
  refine ⟨kb, Sum.inl n, c.hb, rfl, fun v _ => kd, fun hn => ?_⟩
  rw [pop_no hn c.hb] at kd
  exact kd
theorem q_pop1B {n : Int} (hi : G[i]? = some (.ow z)) (hk : EvX K tb G n G) (hn : (z.absent.get? n).isSome = true) (k : At K B S0 (u E) (G.set i (.ow ({ z with absent := z.absent.del n } : Car C)))) : At K B S0 (tSeq (tDrop (tDPop1 (tFld K (tVar i) "absent") tb)) u E) G := fun S σ H F kn => by
  unfold tSeq tDrop tDPop1
  refine at_b kn hi ?_
  obtain ⟨h1, h2, dx, pv, sv, kf, kb, c⟩ := car_at kn hi
  refine ⟨z.b, rfl, .inl ⟨kb, .inl c.hb⟩, hk B S0 S σ H F kn _ fun w S2 H2 e2 k2 r2 => ?_⟩
  obtain ⟨h1, h2, dx, pv, sv, kf, kb, c⟩ := car_at k2 hi
  rw [show w = .int n from r2]
  rw [← c.rb.isSome] at hn
  obtain ⟨v, hv⟩ := Option.isSome_iff_exists.mp hn
  exact ⟨kb, Sum.inl n, v, c.hb, rfl, hv, k S2 σ _ F (car_upd k2 hi (c.setB (d := z.absent.del n) (c.rb.del n)) rfl fun q hq => upd_ne (fp_b hq))⟩
theorem q_putF {n : Int} {x : Bool} (h : EvX K te G x G) (hi : G[i]? = some (.ow z)) (hk : EvX K tb G n G) (hz : z.fresh.l.length < sizeLine) (k : At K B S0 (u E) (G.set i (.ow ({ z with fresh := z.fresh.put n x } : Car C)))) : At K B S0 (tSeq (sDPut (tFld K (tVar i) "fresh") tb te) u E) G := fun S σ H F kn =>
  h B S0 S σ H F kn _ fun v S1 H1 e1 k1 r1 => at_f k1 hi (hk B S0 S1 σ H1 F k1 _ fun w S2 H2 e2 k2 r2 => by
    obtain ⟨h1, h2, dx, pv, sv, kf, kb, c⟩ := car_at k2 hi
    rw [show w = .int n from r2]
    exact ⟨z.f, _, rfl, DPut.k (k := Sum.inl n) c.hf (by rw [c.rf.len]; exact hz), k S2 σ _ F (car_upd k2 hi (c.setF (c.rf.put n (Py.mono e2 r1))) rfl fun q hq => upd_ne (fp_f hq))⟩)
theorem q_putB {n : Int} {x : Bool} (h : EvX K te G x G) (hi : G[i]? = some (.ow z)) (hk : EvX K tb G n G) (hz : z.absent.l.length < sizeLine) (k : At K B S0 (u E) (G.set i (.ow ({ z with absent := z.absent.put n x } : Car C)))) : At K B S0 (tSeq (sDPut (tFld K (tVar i) "absent") tb te) u E) G := fun S σ H F kn =>
  h B S0 S σ H F kn _ fun v S1 H1 e1 k1 r1 => at_b k1 hi (hk B S0 S1 σ H1 F k1 _ fun w S2 H2 e2 k2 r2 => by
    obtain ⟨h1, h2, dx, pv, sv, kf, kb, c⟩ := car_at k2 hi
    rw [show w = .int n from r2]
    exact ⟨z.b, _, rfl, DPut.k (k := Sum.inl n) c.hb (by rw [c.rb.len]; exact hz), k S2 σ _ F (car_upd k2 hi (c.setB (c.rb.put n (Py.mono e2 r1))) rfl fun q hq => upd_ne (fp_b hq))⟩)
theorem el_said (hi : G[i]? = some (.ow z)) : EvL K (tCB (rListS K) (tCons (tFld K (tVar i) "spoken") tNil)) G z.said G := fun B S0 S σ H F k Q q => at_s k hi (by
  obtain ⟨h1, h2, dx, pv, sv, kf, kb, c⟩ := car_at k hi
  exact ⟨z.s, _, rfl, .inl (SqL.of c.hs), fun l hl => mk_list k hl (RepL.of_ints _) fun p vs S2 H2 e2 k2 a b c d r => q p vs S2 H2 e2 k2 a b c d r⟩)
/-! a call that reads what waits -/
theorem ev_callW {β : Type} [Py β] [NoL β] {f : Prog × Stand × List Int × Unit → β} {pre : Prog × Stand × List Int × Unit → Prop} {Ex : XK} (hi : G[i]? = some (.ow z)) (hp : pre (z.g, z.st, z.wait, ())) :
    EvX K (tCall (spF K f pre) [] Ex (tCons (tFld K (tVar i) "program") (tCons (tFld K (tVar i) "stand") (tCons (tFld K (tVar i) "waiting") tNil)))) G (f (z.g, z.st, z.wait, ())) G := fun B S0 S σ H F k Q q => by
  obtain ⟨h1, h2, dx, pv, sv, kf, kb, c⟩ := car_at k hi
  have na : ∀ k ∈ carK, NoAttr K C k := c.na
  refine ⟨.ref z.a, h1, z.a, C, dx, _, pv, rfl, c.ob, c.cl, na _ (by decide +kernel), by rw [look_zip (n := 0) (by decide +kernel) (by decide)]; rfl, ?_⟩
  refine ⟨.ref z.a, h1, z.a, C, dx, _, sv, rfl, c.ob, c.cl, na _ (by decide +kernel), by rw [look_zip (n := 1) (by decide +kernel) (by decide)]; rfl, at_w k hi ?_⟩
  show spF K f pre ([pv, sv, .ref z.w] ++ []) H _ Ex
  rw [List.append_nil]
  obtain ⟨hs, hb, _⟩ := k.off i z.w (by rw [h2]; simp [Car.fp])
  have e1 : Same S (upd S z.w (.lst (z.wait.map V.int))) := same_new hs
  refine ⟨upd S z.w (.lst (z.wait.map V.int)), (z.g, z.st, z.wait, ()), fun q o e => ?_, ⟨_, _, rfl, Py.mono e1 c.rg, _, _, rfl, Py.mono e1 c.rs, _, _, rfl, ⟨z.w, _, rfl, upd_same, RepL.of_ints _⟩, rfl⟩, hp, fun w S2 H2 g r2 => ?_⟩
  · by_cases e2 : q = z.w
    · rw [e2, upd_same] at e
      cases e
      rw [e2]
      exact c.hw
    · rw [upd_ne e2] at e
      exact k.sub q o e
  · have gl := g.lent hs
    exact q w (del S2 z.w) H2 gl.s (k.grow gl) (NoL.go (g.s _ _ upd_same) r2)
end
end GL

/-! Methods, makings. -/
namespace GL
open PySem PySem.Spec PyProof.Rows L2
structure MDef (K : Fg) (C : Addr) (m q : Str) (st : Stmt) (ps : List Str) : Prop where
  ex : ∃ (f : Addr) (fd : FuncData), Meth K C m f ∧ Fun K m q st f fd ∧ Binds K fd ps []
structure MCal (P : Program) (w : World) (K : Fg) (mg : Str → Option Value) (base : Heap) (k : Nat) (C : Addr) (m : Str) (ps : List Str) (sp : Sp) : Prop where
  ex : ∃ (f : Addr) (fd : FuncData), Meth K C m f ∧ FnOk P w K mg base CX0 k f fd ps sp ∧ Binds K fd ps []
structure ICal (P : Program) (w : World) (K : Fg) (mg : Str → Option Value) (base : Heap) (k : Nat) (C : Addr) (x : Str) (ps : List Str) (sp : Sp) : Prop where
  ex : ∃ (f : Addr) (fd : FuncData), Mk K C f ∧ mg x = some (.ref C) ∧ FnOk P w K mg base CX0 k f fd ps sp ∧ Binds K fd ps []
theorem pe_mcal {X : Cx} {j k : Nat} {C : Addr} {m : Str} {ps : List Str} {sp : Sp} {o e : Expr} {es : List Expr} {ta : TE} {t : TA} {apos pos : Pos} {pl : Sem Bool} (c : MCal X.prog X.w X.K X.mg X.base k C m ps sp) (cl : Cls X.K C) (hr : Room j X.A) (hk : k ≤ j) (he : PE X o ta) (ha : PA X (e :: es) t)
    (hst : starEach (e :: es) X.env = (false, eval e X.env) :: starEach es X.env := by rfl) (hpl : (backTo pos (starEach es X.env)).any (·.1) = false := by rfl)
    (ht : eval (.Call (.Attribute o m apos) (e :: es) [] pos) X.env = (do
      let ov ← eval o X.env
      standAt apos.atName
      let (f, first) ← holding [ov] (getMethod ov m pl)
      callWith pos f first (backTo pos (starEach (e :: es) X.env)) (backToKw pos (keywordEach [] X.env))) := by rfl) :
    PE X (.Call (.Attribute o m apos) (e :: es) [] pos) (tMeth C m sp [] E0 ta t) := by
  obtain ⟨f, fd, a, b, d⟩ := c.ex
  exact pe_meth (pl := pl) he cl a b (hr.mono hk) d .nil pass0 ha hst hpl ht
theorem pe_mcal0 {X : Cx} {j k : Nat} {C : Addr} {m : Str} {ps : List Str} {sp : Sp} {o : Expr} {ta : TE} {apos pos : Pos} {pl : Sem Bool} (c : MCal X.prog X.w X.K X.mg X.base k C m ps sp) (cl : Cls X.K C) (hr : Room j X.A) (hk : k ≤ j) (he : PE X o ta)
    (ht : eval (.Call (.Attribute o m apos) [] [] pos) X.env = (do
      let ov ← eval o X.env
      standAt apos.atName
      let (f, first) ← holding [ov] (getMethod ov m pl)
      callWith pos f first (backTo pos (starEach [] X.env)) (backToKw pos (keywordEach [] X.env))) := by rfl) :
    PE X (.Call (.Attribute o m apos) [] [] pos) (tMeth C m sp [] E0 ta tNil) := by
  obtain ⟨f, fd, a, b, d⟩ := c.ex
  exact pe_meth0 (pl := pl) he cl a b (hr.mono hk) d .nil pass0 ht
theorem pe_ical {X : Cx} {j k : Nat} {C : Addr} {x : Str} {ps : List Str} {sp : Sp} {e : Expr} {es : List Expr} {t : TA} {p pos : Pos} (c : ICal X.prog X.w X.K X.mg X.base k C x ps sp) (hr : Room j X.A) (hk : k + 1 ≤ j) (hg : Gl X x) (ha : PA X (e :: es) t)
    (hd : (x == ("__debug__" : Str)) = false := by decide) (hs : starEach (e :: es) X.env = (false, eval e X.env) :: starEach es X.env := by rfl) (hpl : (backTo pos (starEach es X.env)).any (·.1) = false := by rfl) :
    PE X (.Call (.Name x p) (e :: es) [] pos) (tMake C sp [] E0 t) := by
  obtain ⟨f, fd, a, b, c, d⟩ := c.ex
  exact pe_make a c (hr.mono hk) hg b d .nil pass0 ha hd hs hpl
theorem Cal.alias {P : Program} {w : World} {K : Fg} {mg : Str → Option Value} {base : Heap} {k : Nat} {x y : Str} {ps : List Str} {sp : Sp} (c : Cal P w K mg base k x ps sp) (h : mg y = mg x) : Cal P w K mg base k y ps sp := by
  obtain ⟨f, fd, a, b, c, d⟩ := c.ex
  exact ⟨f, fd, h.trans a, b, c, d⟩
/-! ### a promise by which an owned thing may come to stand elsewhere -/
def spO {ω α β : Type} [Own ω] [PyA α] [Py β] (K : Fg) (R : ω → α → β → ω → Prop) (pre : ω → α → Prop) : Sp := fun vs H Q _ => ∃ (S : Hp) (v0 : V) (ws : List V) (ps : List Addr) (z : ω) (a : α), vs = v0 :: ws ∧ Same S H ∧ Own.own K S H v0 ps z ∧
  (∀ p ∈ ps, S p = none ∧ ∃ o, H p = some o) ∧ PyA.rep K S ws a ∧ pre z a ∧ ∀ v S' H' ps' y z', R z a y z' → Same S S' → Same S' H' → (∀ p o, p ∉ ps → H p = some o → H' p = some o) → (∀ p o, p ∉ ps → H p = some o → S' p = S p) →
    (∀ p ∈ ps', S' p = none ∧ (∃ o, H' p = some o) ∧ (p ∈ ps ∨ H p = none)) → Own.own K S' H' v0 ps' z' → Py.rep K S' v y → Q v H'
section
variable {K : Fg} {B S0 S1 S S' D : Hp} {σ : L2.St} {H H' : Hp} {F : Nat → List Addr} {G G' G1 G2 : List Sl} {ta te : TE} {i j : Nat} {t : TA} {u : TS} {E : Ends} {Ex : XK}
variable {ω α β : Type} [Own ω] [PyA α] [Py β] {z z' : ω} {a : α}
theorem Kn.moved {S2 H2 : Hp} {v0 : V} {ps' : List Addr} (k1 : Kn K B S0 S1 σ H F G1) (hi1 : G1[i]? = some (.ow z)) (h1 : σ[i]? = some (some v0)) (s1 : Same S1 S2) (s2 : Same S2 H2) (hk : ∀ p o, p ∉ F i → H p = some o → H2 p = some o) (hc : ∀ p o, p ∉ F i → H p = some o → S2 p = S1 p)
    (hl : ∀ p ∈ ps', S2 p = none ∧ (∃ o, H2 p = some o) ∧ (p ∈ F i ∨ H p = none)) (ho : Own.own K S2 H2 v0 ps' z') : Kn K B S0 S2 σ H2 (upF F i ps') (G1.set i (.ow z')) := by
  have hB : ∀ p ∈ ps', B p = none := fun p hp => by
    rcases (hl p hp).2.2 with m | m
    · exact (k1.off i p m).2.1
    · exact (k1.free m).2.1
  have hN : ∀ p ∈ ps', ∀ j, j ≠ i → p ∉ F j := fun p hp j hj m => by
    rcases (hl p hp).2.2 with m' | m'
    · exact hj (k1.dj j i p m m')
    · exact (k1.free m').2.2 j m
  refine ⟨k1.s0.trans s1, s2, fun p o e => ?_, fun p o e => (hc p o (fun m => by rw [(k1.off i p m).2.1] at e; cases e) (k1.keep p o e)).trans (k1.clean p o e), fun j p hp => ?_, fun a b p ha hb => ?_, by rw [List.length_set]; exact k1.len, fun j s e => ?_⟩
  · exact hk p o (fun m => by rw [(k1.off i p m).2.1] at e; cases e) (k1.keep p o e)
  · by_cases c : j = i
    · rw [c, upF_self] at hp
      exact ⟨(hl p hp).1, hB p hp, (hl p hp).2.1⟩
    · rw [upF_ne c] at hp
      obtain ⟨a1, a2, o, a3⟩ := k1.off j p hp
      exact ⟨(hc p o (fun m => c (k1.dj j i p hp m)) a3).trans a1, a2, o, hk p o (fun m => c (k1.dj j i p hp m)) a3⟩
  · by_cases ca : a = i
    · by_cases cb : b = i
      · rw [ca, cb]
      · rw [ca, upF_self] at ha
        rw [upF_ne cb] at hb
        exact absurd hb (hN p ha b cb)
    · rw [upF_ne ca] at ha
      by_cases cb : b = i
      · rw [cb, upF_self] at hb
        exact absurd ha (hN p hb a ca)
      · rw [upF_ne cb] at hb
        exact k1.dj a b p ha hb
  · rcases set_get e with ⟨rfl, rfl⟩ | ⟨ne, e⟩
    · rw [upF_self]
      exact ⟨v0, h1, ho⟩
    · rw [upF_ne ne]
      have w := k1.sl j s e
      cases s with
      | no => exact True.intro
      | im y =>
        obtain ⟨u, b1, b2⟩ := w
        exact ⟨u, b1, Py.mono s1 b2⟩
      | ow y =>
        obtain ⟨u, b1, b2⟩ := w
        refine ⟨u, b1, Own.mono s1 (fun p hp => ?_) b2⟩
        obtain ⟨_, _, o, a3⟩ := k1.off j p hp
        rw [a3]
        exact hk p o (fun m => ne (k1.dj j i p hp m)) a3
end
section
variable {C : Addr} {K : Fg} {B S0 S1 S S' D : Hp} {σ : L2.St} {H H' : Hp} {F : Nat → List Addr} {G G' G1 G2 : List Sl} {ta te : TE} {i j : Nat} {t : TA} {u : TS} {E : Ends} {Ex : XK} {m : Str}
variable {α β : Type} [PyA α] [Py β] {z z1 : Car C} {a : α} {f : Car C → α → β × Car C} {R : Car C → α → β → Car C → Prop} {pre : Car C → α → Prop}
theorem ev_methM (hm : m ∉ carK) (hi : G[i]? = some (.ow z)) (ha : EvA K t G a G1) (hi1 : G1[i]? = some (.ow z1)) (hp : pre z1 a) : EvX K (tMeth C m (spM K f pre) [] Ex (tVar i) t) G (f z1 a).1 (G1.set i (.ow (f z1 a).2)) := fun B S0 S σ H F k Q q => by
  obtain ⟨h1, h2, dx, pv, sv, kf, kb, c⟩ := car_at k hi
  obtain ⟨v, hv, ht⟩ := ev_callM (E := Ex) hi ha hi1 hp B S0 S σ H F k Q q
  rw [h1] at hv
  cases hv
  exact ⟨.ref z.a, h1, z.a, dx, _, rfl, c.ob, look_none hm, ht⟩
theorem q_methO (hm : m ∉ carK) (hi : G[i]? = some (.ow z)) (ha : EvA K t G a G1) (hi1 : G1[i]? = some (.ow z1)) (hp : pre z1 a) (k : ∀ y z', R z1 a y z' → At K B S0 (u E) (G1.set i (.ow z'))) : At K B S0 (tSeq (tDrop (tMeth C m (spO K R pre) [] Ex (tVar i) t)) u E) G := fun S σ H F kn => by
  unfold tSeq tDrop tMeth
  obtain ⟨h1, h2, dx, pv, sv, kf, kb, c⟩ := car_at kn hi
  refine ⟨.ref z.a, h1, z.a, dx, _, rfl, c.ob, look_none hm, ha B S0 S σ H F kn _ fun vs S1 H1 e1 k1 r1 => ?_⟩
  show spO K R pre (.ref z.a :: (vs ++ [])) H1 _ Ex
  rw [List.append_nil]
  obtain ⟨v1, h3, h4⟩ := k1.ow hi1
  rw [h1] at h3
  cases h3
  exact ⟨S1, .ref z.a, vs, F i, z1, a, rfl, k1.sub, h4, fun p hp => ⟨(k1.off i p hp).1, (k1.off i p hp).2.2⟩, r1, hp, fun v S2 H2 ps' y z' hR s1 s2 hk hc hl ho r2 => k y z' hR S2 σ H2 _ (k1.moved hi1 h1 s1 s2 hk hc hl ho)⟩
end
section
variable {P : Program} {w : World} {K : Fg} {mg : Str → Option Value} {base : Heap} {α β : Type} [Sls α] [Py β] {C : Addr}
theorem mdef_spM {x q : Str} {st : Stmt} {N ps : List Str} {k : Nat} {f : Car C → α → β × Car C} {pre : Car C → α → Prop} (D : MDef K C x q st ps) (S : FnScope N ps (defScope st)) (hn : PyA.n α + 1 = ps.length) (hA : ∀ z a, pre z a → Anch.fp (f z a).2 = Anch.fp z)
    (h : ∀ (fa : Addr) (cdv : Value) (A : Around) (outer : List Env) (s : Shared) (H : Hp) (E : XK), Room k (A.deeper (envOfC q (defScope st) s.heap.objs.size fa cdv)) →
      ∃ t, PSs (cxOf CX0 P w K mg base N q (defScope st) fa cdv A outer s H E).nox (defBody st) t ∧
        ∀ (z : Car C) (a : α), pre z a → ∀ (B S0 : Hp) (Q : VK), (∀ (G' : List Sl) y z', G'[0]? = some (.ow z') → (y, z') = f z a → RT K B S0 Q y G') → At K B S0 (t { nx := fun _ H' => Q .non H', rt := Q }) (.ow z :: Sls.sls a ++ List.replicate (N.length - (PyA.n α + 1)) .no)) :
    MCal P w K mg base (k + 1) C x ps (spM K f pre) := by
  obtain ⟨fa, fd, m, Fu, b⟩ := D.ex
  refine ⟨fa, fd, m, Fu.ok S (fun vs H Q E ⟨S, v0, ws, qs, z, a, e, _, _, _, r, _⟩ => by rw [e, List.length_cons, PyA.len r]; exact hn) fun cdv A outer s H vs Q E hr ⟨S', v0, ws, qs, z, a, e, es, ho, hqs, r, hp, q⟩ => ?_, b⟩
  subst e
  obtain ⟨t, h1, h2⟩ := h fa cdv A outer s H E hr
  refine ⟨t, h1, ?_⟩
  have kn := start_knM (N := N) es ho hqs r
  refine h2 z a hp _ S' Q (fun G' y z' hz ey S1 σ1 H1 F1 v k1 r1 => ?_) S' _ H _ kn
  obtain ⟨v1, _, o1⟩ := k1.ow hz
  have e1 : z' = (f z a).2 := by rw [← ey]
  have e2 : y = (f z a).1 := by rw [← ey]
  have ef : (v1, F1 0) = (v0, qs) := (Anch.at_ o1).trans (by rw [e1, hA z a hp]; exact (Anch.at_ ho).symm)
  have ev : v1 = v0 := congrArg Prod.fst ef
  have eF : F1 0 = qs := congrArg Prod.snd ef
  rw [ev, eF] at o1
  subst e1 e2
  refine q v S1 H1 k1.s0 k1.sub (fun p o m e => k1.keep p o (by rw [if_neg m]; exact e)) (fun p o e => ?_) (fun p m => ?_) o1 r1
  · by_cases m : p ∈ qs
    · rw [(k1.off 0 p (by rw [eF]; exact m)).1, (hqs p m).1]
    · exact k1.clean p o (by rw [if_neg m]; exact e)
  · exact (k1.off 0 p (by rw [eF]; exact m)).2.2
theorem mdef_spO {x q : Str} {st : Stmt} {N ps : List Str} {k : Nat} {R : Car C → α → β → Car C → Prop} {pre : Car C → α → Prop} (D : MDef K C x q st ps) (S : FnScope N ps (defScope st)) (hn : PyA.n α + 1 = ps.length)
    (h : ∀ (fa : Addr) (cdv : Value) (A : Around) (outer : List Env) (s : Shared) (H : Hp) (E : XK), Room k (A.deeper (envOfC q (defScope st) s.heap.objs.size fa cdv)) →
      ∃ t, PSs (cxOf CX0 P w K mg base N q (defScope st) fa cdv A outer s H E).nox (defBody st) t ∧
        ∀ (z : Car C) (a : α), pre z a → ∀ (B S0 : Hp) (Q : VK), (∀ (G' : List Sl) y (z' : Car C), G'[0]? = some (.ow z') → z'.a = z.a → R z a y z' → RT K B S0 Q y G') → At K B S0 (t { nx := fun _ H' => Q .non H', rt := Q }) (.ow z :: Sls.sls a ++ List.replicate (N.length - (PyA.n α + 1)) .no)) :
    MCal P w K mg base (k + 1) C x ps (spO K R pre) := by
  obtain ⟨fa, fd, m, Fu, b⟩ := D.ex
  refine ⟨fa, fd, m, Fu.ok S (fun vs H Q E ⟨S, v0, ws, qs, z, a, e, _, _, _, r, _⟩ => by rw [e, List.length_cons, PyA.len r]; exact hn) fun cdv A outer s H vs Q E hr ⟨S', v0, ws, qs, z, a, e, es, ho, hqs, r, hp, q⟩ => ?_, b⟩
  subst e
  obtain ⟨t, h1, h2⟩ := h fa cdv A outer s H E hr
  refine ⟨t, h1, ?_⟩
  have kn := start_knM (N := N) es ho hqs r
  refine h2 z a hp _ S' Q (fun G' y z' hz ea hR S1 σ1 H1 F1 v k1 r1 => ?_) S' _ H _ kn
  obtain ⟨v1, _, o1⟩ := k1.ow hz
  have ev : v1 = v0 := by rw [o1.1, ho.1, ea]
  rw [ev] at o1
  refine q v S1 H1 (F1 0) y z' hR k1.s0 k1.sub (fun p o m e => k1.keep p o (by rw [if_neg m]; exact e)) (fun p o m e => k1.clean p o (by rw [if_neg m]; exact e)) (fun p m => ?_) o1 r1
  obtain ⟨a1, a2, a3⟩ := k1.off 0 p m
  refine ⟨a1, a3, ?_⟩
  by_cases c : p ∈ qs
  · exact .inl c
  · rw [if_neg c] at a2
    exact .inr a2
end
section
variable {C : Addr} {K : Fg} {B S0 S1 S S' D : Hp} {σ : L2.St} {H H' : Hp} {F : Nat → List Addr} {G G' G1 G2 : List Sl} {ta te : TE} {i j : Nat} {t : TA} {u : TS} {E : Ends} {Ex : XK} {m : Str} {z : Car C}
/-- self.fresh = {} -/
theorem q_newF (hi : G[i]? = some (.ow z)) (k : ∀ f' : Addr, At K B S0 (u E) (G.set i (.ow ({ z with f := f', fresh := Dct.emp } : Car C)))) : At K B S0 (tSeq (sFld K (tVar i) tDNewK "fresh") u E) G := fun S σ H F kn => by
  unfold tSeq sFld
  intro p hp
  obtain ⟨h1, h2, dx, pv, sv, kf, kb, c⟩ := car_at kn hi
  have na : z.a ≠ p := ne_of_none c.ob hp
  refine ⟨.ref z.a, h1, z.a, C, dx, _, rfl, by rw [upd_ne na]; exact c.ob, c.cl, c.na _ (by decide +kernel), by show (carK.zip (carV z pv sv)).length < 1000; simp [carK, carV], ?_⟩
  have nw : z.w ≠ p := ne_of_none c.hw hp
  have ns : z.s ≠ p := ne_of_none c.hs hp
  have nb : z.b ≠ p := ne_of_none c.hb hp
  have hH : ∀ q o, q ∉ F i → H q = some o → upd (upd H p (.dK [])) z.a (.ins C dx (putF "fresh" (.ref p) (carK.zip (carV z pv sv)))) q = some o := fun q o hq e => by
    rw [upd_ne (fun z' => hq (by rw [h2, z']; simp [Car.fp])), upd_ne (ne_of_none e hp)]
    exact e
  have c' : CarAt K S (upd (upd H p (.dK [])) z.a (.ins C dx (putF "fresh" (.ref p) (carK.zip (carV z pv sv))))) ({ z with f := p, fresh := Dct.emp } : Car C) dx pv sv [] kb := by
    refine ⟨c.cl, c.na, ?_, c.rg, c.rs, ?_, ?_, ?_, True.intro, ?_, c.rb, c.d1, nb.symm⟩
    · show upd _ z.a _ z.a = _
      rw [upd_same, put_zip (n := 9) (by decide +kernel) (by decide) rfl]
      rfl
    · show upd _ z.a _ z.w = _
      rw [upd_ne c.ne_w, upd_ne nw]; exact c.hw
    · show upd _ z.a _ z.s = _
      rw [upd_ne c.ne_s, upd_ne ns]; exact c.hs
    · show upd _ z.a _ p = _
      rw [upd_ne na.symm, upd_same]
    · show upd _ z.a _ z.b = _
      rw [upd_ne c.ne_b, upd_ne nb]; exact c.hb
  refine k p S σ _ _ (kn.moved (z' := ({ z with f := p, fresh := Dct.emp } : Car C)) (ps' := [z.a, z.w, z.s, p, z.b]) hi h1 (Same.refl _) (fun q o e => ?_) hH (fun _ _ _ _ => rfl) (fun q hq => ?_) ⟨rfl, rfl, dx, pv, sv, [], kb, c'⟩)
  · exact hH q o (fun m => by rw [(kn.off i q m).1] at e; cases e) (kn.sub q o e)
  · have hs : S q = none := by
      simp only [List.mem_cons, List.mem_nil_iff, or_false] at hq
      rcases hq with e | e | e | e | e <;> rw [e]
      · exact (kn.off i _ (by rw [h2]; simp [Car.fp])).1
      · exact (kn.off i _ (by rw [h2]; simp [Car.fp])).1
      · exact (kn.off i _ (by rw [h2]; simp [Car.fp])).1
      · exact (kn.free hp).1
      · exact (kn.off i _ (by rw [h2]; simp [Car.fp])).1
    refine ⟨hs, c'.some (show q ∈ ({ z with f := p, fresh := Dct.emp } : Car C).fp from hq), ?_⟩
    simp only [List.mem_cons, List.mem_nil_iff, or_false] at hq
    rcases hq with e | e | e | e | e
    · left; rw [e, h2]; simp [Car.fp]
    · left; rw [e, h2]; simp [Car.fp]
    · left; rw [e, h2]; simp [Car.fp]
    · right; rw [e]; exact hp
    · left; rw [e, h2]; simp [Car.fp]
/-- self.stand, a, b, c, d = .. -/
theorem q_tick5 {β γ δ ε : Type} [Py β] [Py γ] [Py δ] [Py ε] {w : T5 Stand β γ δ ε} {j1 j2 j3 j4 : Nat} (h : EvX K te G w G1) (hi : G1[i]? = some (.ow z)) (g1 : (G1.set i (.ow ({ z with st := w.a } : Car C)))[j1]?.isSome = true)
    (g2 : ((G1.set i (.ow ({ z with st := w.a } : Car C))).set j1 (.im w.b))[j2]?.isSome = true) (g3 : (((G1.set i (.ow ({ z with st := w.a } : Car C))).set j1 (.im w.b)).set j2 (.im w.c))[j3]?.isSome = true)
    (g4 : ((((G1.set i (.ow ({ z with st := w.a } : Car C))).set j1 (.im w.b)).set j2 (.im w.c)).set j3 (.im w.d))[j4]?.isSome = true)
    (k : ∀ b c d e, b = w.b → c = w.c → d = w.d → e = w.e → At K B S0 (u E) (((((G1.set i (.ow ({ z with st := w.a } : Car C))).set j1 (.im b)).set j2 (.im c)).set j3 (.im d)).set j4 (.im e))) :
    At K B S0 (tSeq (tAsg te (gTup K 5 (gCons (gFld K (tVar i) "stand") (gCons (gName j1) (gCons (gName j2) (gCons (gName j3) (gCons (gName j4) gNil))))))) u E) G := fun S σ H F kn =>
  h B S0 S σ H F kn _ fun v S1 H1 e1 k1 r1 => by
    obtain ⟨p, a, b, c, d, e, rfl, hp, ra, rb, rc, rd, re⟩ := r1
    obtain ⟨h1, h2, dx, pv, sv, kf, kb, ca⟩ := car_at k1 hi
    refine ⟨p, [a, b, c, d, e], rfl, seqT k1.sub hp, rfl, a, [b, c, d, e], rfl, .ref z.a, h1, z.a, C, dx, _, rfl, ca.ob, ca.cl, ca.na _ (by decide +kernel), by show (carK.zip (carV z pv sv)).length < 1000; simp [carK, carV], b, [c, d, e], rfl, c, [d, e], rfl, d, [e], rfl, e, [], rfl, rfl, ?_⟩
    have c' : CarAt K S1 (upd H1 z.a (.ins C dx (putF "stand" a (carK.zip (carV z pv sv))))) ({ z with st := w.a } : Car C) dx pv a kf kb := ca.set (n := 1) (by decide +kernel) (by decide) rfl rfl rfl rfl rfl rfl rfl rfl rfl rfl ca.rg ra
    have k2 := car_upd (z' := ({ z with st := w.a } : Car C)) k1 hi c' rfl fun q hq => upd_ne (fp_a hq)
    exact k _ _ _ _ rfl rfl rfl rfl S1 _ _ F ((((k2.set rb g1).set rc g2).set rd g3).set re g4)
end
/-! ### what a tick tells -/
structure Tw where
  w : Str
  r : List (Option Int)
  deriving DecidableEq
instance : Py Tw := ⟨fun K S v x => ∃ p, v = .ref p ∧ SqT K S p (.str x.w :: x.r.map oV), fun e ⟨p, h1, h2⟩ => ⟨p, h1, seqT e h2⟩⟩
def oD : Option Int → PyData
  | none => .none
  | some x => .int x
theorem dp_os {K : Fg} {H : Hp} : ∀ xs : List (Option Int), DpAll K H (xs.map oV) (xs.map oD)
  | [] => .nil
  | none :: xs => .cons .non (dp_os xs)
  | some x :: xs => .cons (.int x) (dp_os xs)
theorem lay_os : ∀ xs : List (Option Int), PyData.canLayAll0 (xs.map oD) = true
  | [] => rfl
  | none :: xs => by rw [List.map_cons, PyData.canLayAll0, lay_os xs]; rfl
  | some x :: xs => by rw [List.map_cons, PyData.canLayAll0, lay_os xs]; rfl
theorem dep_os : ∀ xs : List (Option Int), PyData.depthAll (xs.map oD) ≤ 0
  | [] => by rw [List.map_nil, PyData.depthAll]; exact Nat.le_refl _
  | none :: xs => by have := dep_os xs; rw [List.map_cons, PyData.depthAll]; simp [oD, PyData.depth]; omega
  | some x :: xs => by have := dep_os xs; rw [List.map_cons, PyData.depthAll]; simp [oD, PyData.depth]; omega
theorem eq_os : ∀ xs ys : List (Option Int), (PyData.eqvAll (xs.map oD) (ys.map oD) = true) ↔ xs = ys
  | [], [] => by simp [PyData.eqvAll]
  | [], _ :: _ => by simp [PyData.eqvAll]
  | _ :: _, [] => by simp [PyData.eqvAll]
  | x :: xs, y :: ys => by
    rw [List.map_cons, List.map_cons, PyData.eqvAll, Bool.and_eq_true, eq_os xs ys, List.cons.injEq]
    refine and_congr ?_ Iff.rfl
    cases x <;> cases y <;> simp [oD, PyData.eqv]
instance (priority := 600) : Dq Tw := ⟨fun x => .tuple (.str x.w :: x.r.map oD), fun x => (PyData.str x.w).canLay0 = true, fun e ⟨p, h1, h2⟩ => by rw [h1]; exact .tup (seqT e h2) (.cons (.str _) (dp_os _)),
  fun x h => by rw [PyData.canLay0, PyData.canLayAll0, h, lay_os]; rfl, 1, fun x => by have := dep_os x.r; rw [PyData.depth, PyData.depthAll]; simp [PyData.depth]; omega, fun x y => by
    obtain ⟨w, r⟩ := x
    obtain ⟨w', r'⟩ := y
    rw [PyData.eqv, PyData.eqvAll, Bool.and_eq_true, eq_os]
    simp [PyData.eqv]⟩
section
variable {K : Fg} {G G1 G2 : List Sl} {ta tb : TE}
theorem ev_tw1 {w : Str} : EvX K (tTup (tCons (tC (.str w)) tNil)) G (Tw.mk w []) G := fun B S0 S σ H F k Q q => ⟨by show 1 ≤ sizeLine; decide, fun p hp => q (.ref p) _ _ (same_new (k.free hp).1) (k.new hp) ⟨p, rfl, SqT.of upd_same⟩⟩
theorem ev_tw2 {x : Str} {y : Option Int} (ha : EvX K ta G x G1) (hb : EvX K tb G1 y G2) : EvX K (tTup (tCons ta (tCons tb tNil))) G (Tw.mk x [y]) G2 := fun B S0 S σ H F k Q q =>
  ha B S0 S σ H F k _ fun v S1 H1 e1 k1 r1 => hb B S0 S1 σ H1 F k1 _ fun v2 S2 H2 e2 k2 r2 => ⟨by show 2 ≤ sizeLine; decide, fun p hp => by
    rw [show v = .str x from r1, oV_rep r2]
    exact q (.ref p) _ _ ((e1.trans e2).trans (same_new (k2.free hp).1)) (k2.new hp) ⟨p, rfl, SqT.of upd_same⟩⟩
theorem ev_twW {x : Tw} (ha : EvX K ta G x G1) : EvX K (tOp (rIxT K) ta (tC (.int 0))) G x.w G1 := fun B S0 S σ H F k Q q =>
  ha B S0 S σ H F k _ fun v S1 H1 e1 k1 r1 => by
    obtain ⟨p, rfl, hp⟩ := r1
    exact ⟨p, _, 0, .str x.w, rfl, rfl, seqT k1.sub hp, atI_nat (j := 0) rfl, q _ S1 H1 e1 k1 rfl⟩
end
end GL

/-! The making of a carried program. -/
namespace GL
open PySem PySem.Spec PyProof.Rows L2
def spCI (K : Fg) (C : Addr) : Sp := fun vs H Q _ => ∃ (S : Hp) (x dx : Addr) (pv sv : V) (g : Prog) (st : Stand) (h : Int), vs = [.ref x, pv, sv, .int h] ∧ H x = some (.ins C dx []) ∧ Py.rep K S pv g ∧ Py.rep K S sv st ∧
  ∀ (w s f b : Addr) (H' : Hp), H w = none → H s = none → H f = none → H b = none → CarAt K S H' (Car.mk (C := C) x w s f b g st h 0 [] [] 0 none false Dct.emp 0 Dct.emp) dx pv sv [] [] → (∀ p o, p ≠ x → H p = some o → H' p = some o) → Q .non H'
section
variable {P : Program} {w : World} {K : Fg} {mg : Str → Option Value} {base : Heap} {C x dx : Addr} {H : Hp} {σ : L2.St} {u : TS} {D : Ends} {tv : TE} {f : Str} {ks : List Str} {vs : List V}
/-- the next field, a value at hand -/
theorem st_put {y : V} (hσ : σ[0]? = some (some (.ref x))) (hx : H x = some (.ins C dx (ks.zip vs))) (cl : Cls K C) (na : NoAttr K C f) (hf : f ∉ ks) (hl : ks.length = vs.length) (hs : ks.length < 900) (hv : ∀ Q : VK, Q y H → tv σ H Q)
    (k : u D σ (upd H x (.ins C dx ((ks ++ [f]).zip (vs ++ [y]))))) : tSeq (sFld K (tVar 0) tv f) u D σ H :=
  hv _ ⟨.ref x, hσ, x, C, dx, _, rfl, hx, cl, na, by rw [List.length_zip]; omega, by rw [put_snoc hf hl]; exact k⟩
/-- the next field, a thing made -/
theorem st_new {o : HO} (hσ : σ[0]? = some (some (.ref x))) (hx : H x = some (.ins C dx (ks.zip vs))) (cl : Cls K C) (na : NoAttr K C f) (hf : f ∉ ks) (hl : ks.length = vs.length) (hs : ks.length < 900) (hv : ∀ Q : VK, (∀ p, H p = none → Q (.ref p) (upd H p o)) → tv σ H Q)
    (k : ∀ p, H p = none → u D σ (upd (upd H p o) x (.ins C dx ((ks ++ [f]).zip (vs ++ [V.ref p]))))) : tSeq (sFld K (tVar 0) tv f) u D σ H :=
  hv _ fun p hp => ⟨.ref x, hσ, x, C, dx, _, rfl, by rw [upd_ne (ne_of_none hx hp)]; exact hx, cl, na, by rw [List.length_zip]; omega, by rw [put_snoc hf hl]; exact k p hp⟩
theorem ok_carinit {st : Stmt} {fa : Addr} {fd : FuncData} {N ps : List Str} {k : Nat} (F : Fun K "__init__" "Carried.__init__" st fa fd) (S : FnScope N ps (defScope st)) (hp : ps.length = 4) (hN : N.length = 4) (cl : Cls K C) (na : ∀ k ∈ carK, NoAttr K C k)
    (h : ∀ (cdv : Value) (A : Around) (outer : List Env) (s : Shared) (H : Hp) (E : XK), Room k (A.deeper (envOfC "Carried.__init__" (defScope st) s.heap.objs.size fa cdv)) →
      PSs (cxOf CX0 P w K mg base N "Carried.__init__" (defScope st) fa cdv A outer s H E).nox (defBody st)
       (tSeq (sFld K (tVar 0) (tVar 1) "program") (tSeq (sFld K (tVar 0) (tVar 2) "stand") (tSeq (sFld K (tVar 0) (tVar 3) "houses") (tSeq (sFld K (tVar 0) (tC (.int 0)) "place") (tSeq (sFld K (tVar 0) (tLst tNil) "waiting") (tSeq (sFld K (tVar 0) (tLst tNil) "spoken") (tSeq (sFld K (tVar 0) (tC (.int 0)) "done")
        (tSeq (sFld K (tVar 0) (tC .non) "goal") (tSeq (sFld K (tVar 0) (tC (.bl false)) "is_still") (tSeq (sFld K (tVar 0) tDNewK "fresh") (tSeq (sFld K (tVar 0) (tC (.int 0)) "made") (tSeq (sFld K (tVar 0) tDNewK "absent") tNext))))))))))))) : FnOk P w K mg base CX0 (k + 1) fa fd ps (spCI K C) := by
  refine F.ok S (fun vs H Q E ⟨_, _, _, _, _, _, _, _, e, _⟩ => by rw [e, hp]; rfl) fun cdv A outer s H vs Q E hr ⟨S', x, dx, pv, sv, g, sd, hh, e, hx, rg, rs, q⟩ => ⟨_, h cdv A outer s H E hr, ?_⟩
  subst e
  have hσ : L2.start N [.ref x, pv, sv, .int hh] = [some (.ref x), some pv, some sv, some (.int hh)] := by
    unfold L2.start
    simp [hN]
  rw [hσ]
  refine st_put (ks := []) (vs := []) (y := pv) rfl hx cl (na _ (by decide +kernel)) (by decide +kernel) rfl (by decide) (fun Q q => ⟨pv, rfl, q⟩) ?_
  refine st_put (y := sv) rfl upd_same cl (na _ (by decide +kernel)) (by decide +kernel) rfl (by decide) (fun Q q => ⟨sv, rfl, q⟩) ?_
  refine st_put (y := .int hh) rfl upd_same cl (na _ (by decide +kernel)) (by decide +kernel) rfl (by decide) (fun Q q => ⟨_, rfl, q⟩) ?_
  refine st_put (y := .int 0) rfl upd_same cl (na _ (by decide +kernel)) (by decide +kernel) rfl (by decide) (fun Q q => q) ?_
  refine st_new (o := .lst []) rfl upd_same cl (na _ (by decide +kernel)) (by decide +kernel) rfl (by decide) (fun Q q => ⟨by decide, q⟩) fun w hw => ?_
  refine st_new (o := .lst []) rfl upd_same cl (na _ (by decide +kernel)) (by decide +kernel) rfl (by decide) (fun Q q => ⟨by decide, q⟩) fun s hs => ?_
  refine st_put (y := .int 0) rfl upd_same cl (na _ (by decide +kernel)) (by decide +kernel) rfl (by decide) (fun Q q => q) ?_
  refine st_put (y := .non) rfl upd_same cl (na _ (by decide +kernel)) (by decide +kernel) rfl (by decide) (fun Q q => q) ?_
  refine st_put (y := .bl false) rfl upd_same cl (na _ (by decide +kernel)) (by decide +kernel) rfl (by decide) (fun Q q => q) ?_
  refine st_new (o := .dK []) rfl upd_same cl (na _ (by decide +kernel)) (by decide +kernel) rfl (by decide) (fun Q q => q) fun f hf => ?_
  refine st_put (y := .int 0) rfl upd_same cl (na _ (by decide +kernel)) (by decide +kernel) rfl (by decide) (fun Q q => q) ?_
  refine st_new (o := .dK []) rfl upd_same cl (na _ (by decide +kernel)) (by decide +kernel) rfl (by decide) (fun Q q => q) fun b hb => ?_
  have nw : w ≠ x := fun e => by rw [e, upd_same] at hw; cases hw
  have ns : s ≠ x := fun e => by rw [e, upd_same] at hs; cases hs
  have nf : f ≠ x := fun e => by rw [e, upd_same] at hf; cases hf
  have nb : b ≠ x := fun e => by rw [e, upd_same] at hb; cases hb
  rw [upd_ne nw, upd_ne nw, upd_ne nw, upd_ne nw] at hw
  rw [upd_ne ns] at hs
  have sw : s ≠ w := fun e => by rw [e, upd_same] at hs; cases hs
  rw [upd_ne sw, upd_ne ns, upd_ne ns, upd_ne ns, upd_ne ns] at hs
  rw [upd_ne nf, upd_ne nf, upd_ne nf, upd_ne nf] at hf
  have fs : f ≠ s := fun e => by rw [e, upd_same] at hf; cases hf
  rw [upd_ne fs, upd_ne nf] at hf
  have fw : f ≠ w := fun e => by rw [e, upd_same] at hf; cases hf
  rw [upd_ne fw, upd_ne nf, upd_ne nf, upd_ne nf, upd_ne nf] at hf
  rw [upd_ne nb, upd_ne nb] at hb
  have bf : b ≠ f := fun e => by rw [e, upd_same] at hb; cases hb
  rw [upd_ne bf, upd_ne nb, upd_ne nb, upd_ne nb, upd_ne nb] at hb
  have bs : b ≠ s := fun e => by rw [e, upd_same] at hb; cases hb
  rw [upd_ne bs, upd_ne nb] at hb
  have bw : b ≠ w := fun e => by rw [e, upd_same] at hb; cases hb
  rw [upd_ne bw, upd_ne nb, upd_ne nb, upd_ne nb, upd_ne nb] at hb
  refine q w s f b _ hw hs hf hb ⟨cl, na, ?_, rg, rs, ?_, ?_, ?_, True.intro, ?_, True.intro, sw.symm, bf.symm⟩ fun p o np e => ?_
  · exact upd_same
  · show upd _ x _ w = _
    simp only [upd_ne nw, upd_ne bw.symm, upd_ne fw.symm, upd_ne sw.symm, upd_same]
    rfl
  · show upd _ x _ s = _
    simp only [upd_ne ns, upd_ne bs.symm, upd_ne fs.symm, upd_same]
    rfl
  · show upd _ x _ f = _
    simp only [upd_ne nf, upd_ne bf.symm, upd_same]
  · show upd _ x _ b = _
    simp only [upd_ne nb, upd_same]
  · simp only [upd_ne np, upd_ne (ne_of_none e hb), upd_ne (ne_of_none e hf), upd_ne (ne_of_none e hs), upd_ne (ne_of_none e hw)]
    exact e
end
section
variable {C : Addr} {K : Fg} {B S0 S1 S S' D : Hp} {σ : L2.St} {H H' : Hp} {F : Nat → List Addr} {G G' G1 G2 : List Sl} {i : Nat} {t : TA} {u : TS} {E : Ends} {Ex : XK}
theorem q_makeC (i : Nat) {g : Prog} {st : Stand} {h : Int} (ha : EvA K t G (g, st, h, ()) G1) (hi : G1[i]?.isSome = true) (k : ∀ z : Car C, (∃ a w s f b, z = Car.mk a w s f b g st h 0 [] [] 0 none false Dct.emp 0 Dct.emp) → At K B S0 (u E) (G1.set i (.ow z))) :
    At K B S0 (tSeq (tAsg (tMake C (spCI K C) [] Ex t) (gName i)) u E) G := fun S σ H F kn =>
  ha B S0 S σ H F kn _ fun vs S1 H1 e1 k1 r1 => by
    intro x dx hx hdx nx
    obtain ⟨pv, ws, rfl, rg, sv, ws', rfl, rs, hv, ws'', rfl, rh, rfl⟩ := r1
    rw [show hv = .int h from rh]
    have hH : ∀ p o, H1 p = some o → upd (upd H1 dx (.own x)) x (.ins C dx []) p = some o := fun p o e => by
      rw [upd_ne (ne_of_none e hx), upd_ne (ne_of_none e hdx)]
      exact e
    have back : ∀ p, upd (upd H1 dx (.own x)) x (.ins C dx []) p = none → H1 p = none := fun p e => by
      cases c : H1 p with
      | none => rfl
      | some o => rw [hH p o c] at e; cases e
    refine ⟨S1, x, dx, pv, sv, g, st, h, rfl, upd_same, rg, rs, fun w s f b H' nw ns nf nb c kp => ⟨rfl, ?_⟩⟩
    have hH' : ∀ p o, H1 p = some o → H' p = some o := fun p o e => kp p o (ne_of_none e hx) (hH p o e)
    have gr : Grow S1 H1 S1 H' := ⟨Same.refl _, fun p o e => hH' p o (k1.sub p o e), hH', fun _ _ _ => rfl⟩
    refine k _ ⟨x, w, s, f, b, rfl⟩ S1 _ H' _ ((k1.grow gr).setOwns (v := .ref x) (x := Car.mk (C := C) x w s f b g st h 0 [] [] 0 none false Dct.emp 0 Dct.emp) (ps := [x, w, s, f, b]) ⟨rfl, rfl, dx, pv, sv, [], [], c⟩ hi fun p hp => ?_)
    have hn : H1 p = none := by
      simp only [List.mem_cons, List.mem_nil_iff, or_false] at hp
      rcases hp with e | e | e | e | e <;> rw [e]
      · exact hx
      · exact back _ nw
      · exact back _ ns
      · exact back _ nf
      · exact back _ nb
    obtain ⟨a1, a2, a3⟩ := k1.free hn
    exact ⟨a1, a2, c.some hp, a3⟩
end
end GL

/-! Defs that tell a new carried program; methods of one that is held by no name. -/
namespace GL
open PySem PySem.Spec PyProof.Rows L2
def spCR {α : Type} [PyA α] (K : Fg) (C : Addr) (R : α → Car C → Prop) (pre : α → Prop) : Sp := fun vs H Q _ => ∃ (S : Hp) (a : α), Same S H ∧ PyA.rep K S vs a ∧ pre a ∧
  ∀ (z : Car C) S' H', R a z → Grow S H S' H' → (∀ p ∈ z.fp, H p = none ∧ S' p = none) → Own.own K S' H' (.ref z.a) z.fp z → Q (.ref z.a) H'
section
variable {P : Program} {w : World} {K : Fg} {mg : Str → Option Value} {base : Heap} {α : Type} [Sls α] {C : Addr}
theorem def_spCR {x : Str} {st : Stmt} {N ps : List Str} {k : Nat} {R : α → Car C → Prop} {pre : α → Prop} (D : Def K mg x st ps) (S : FnScope N ps (defScope st)) (hn : PyA.n α = ps.length)
    (h : ∀ (fa : Addr) (cdv : Value) (A : Around) (outer : List Env) (s : Shared) (H : Hp) (E : XK), Room k (A.deeper (envOfC x (defScope st) s.heap.objs.size fa cdv)) →
      ∃ t, PSs (cxOf CX0 P w K mg base N x (defScope st) fa cdv A outer s H E).nox (defBody st) t ∧
        ∀ (a : α), pre a → ∀ (B S0 : Hp) (Q : VK), (∀ (G' : List Sl) (z : Car C) (j : Nat), G'[j]? = some (.ow z) → R a z → ∀ S σ H F, Kn K B S0 S σ H F G' → Q (.ref z.a) H) → At K B S0 (t { nx := fun _ H' => Q .non H', rt := Q }) (Sls.sls a ++ List.replicate (N.length - PyA.n α) .no)) :
    Cal P w K mg base (k + 1) x ps (spCR K C R pre) := by
  obtain ⟨fa, fd, m, F, b⟩ := D.ex
  refine ⟨fa, fd, m, F.ok S (fun vs H Q E ⟨S, a, _, r, _⟩ => (PyA.len r).trans hn) fun cdv A outer s H vs Q E hr ⟨S', a, e, r, hp, q⟩ => ?_, F.kp, b⟩
  obtain ⟨t, h1, h2⟩ := h fa cdv A outer s H E hr
  refine ⟨t, h1, h2 a hp H S' Q (fun G' z j hj hR S1 σ1 H1 F1 k1 => ?_) S' _ H _ (start_kn e r)⟩
  obtain ⟨q1, q2, dx, pv, sv, kf, kb, c⟩ := car_at k1 hj
  refine q z S1 H1 hR ⟨k1.s0, k1.sub, k1.keep, k1.clean⟩ (fun p m => ?_) ⟨rfl, rfl, dx, pv, sv, kf, kb, c⟩
  obtain ⟨a1, a2, _⟩ := k1.off j p (by rw [q2]; exact m)
  exact ⟨a2, a1⟩
end
section
variable {C : Addr} {K : Fg} {B S0 S1 S S' D : Hp} {σ : L2.St} {H H' : Hp} {F : Nat → List Addr} {G G' G1 G2 : List Sl} {i j : Nat} {t : TA} {u : TS} {E : Ends} {Ex Ex' : XK} {m : Str}
variable {α β : Type} [PyA α] [Py β] {a : α} {R : α → Car C → Prop} {pre' : α → Prop} {f : Car C → Unit → β × Car C} {pre : Car C → Unit → Prop} {z : Car C}
theorem q_retC (hj : G[j]? = some (.ow z)) (k : ∀ S σ H F, Kn K B S0 S σ H F G → E.rt (.ref z.a) H) : At K B S0 (tSeq (tRet (tVar j)) u E) G := fun S σ H F kn => by
  obtain ⟨h1, _⟩ := car_at kn hj
  exact ⟨.ref z.a, h1, k S σ H F kn⟩
theorem q_newC (i : Nat) (ha : EvA K t G a G1) (hp : pre' a) (hi : G1[i]?.isSome = true) (k : ∀ z : Car C, R a z → At K B S0 (u E) (G1.set i (.ow z))) : At K B S0 (tSeq (tAsg (tCall (spCR K C R pre') [] Ex t) (gName i)) u E) G := fun S σ H F kn =>
  ha B S0 S σ H F kn _ fun vs S1 H1 e1 k1 r1 => by
    show spCR K C R pre' (vs ++ []) H1 _ Ex
    rw [List.append_nil]
    refine ⟨S1, a, k1.sub, r1, hp, fun z S2 H2 hR g hn ho => k z hR S2 _ H2 _ ((k1.grow g).setOwns (v := .ref z.a) (x := z) (ps := z.fp) ho hi fun p hp => ?_)⟩
    obtain ⟨a1, a2, a3⟩ := k1.free (hn p hp).1
    obtain ⟨_, _, dx, pv, sv, kf, kb, c⟩ := ho
    exact ⟨(hn p hp).2, a2, c.some hp, a3⟩
/-- f(..).m(), the value told whatever the new one is -/
theorem ev_tmpM {y : β} (hm : m ∉ carK) (ha : EvA K t G a G1) (hp : pre' a) (hz : ∀ z : Car C, R a z → pre z () ∧ (f z ()).1 = y) : EvX K (tMeth C m (spM K f pre) [] Ex (tCall (spCR K C R pre') [] Ex' t) tNil) G y G1 := fun B S0 S σ H F k Q q =>
  ha B S0 S σ H F k _ fun vs S1 H1 e1 k1 r1 => by
    show spCR K C R pre' (vs ++ []) H1 _ Ex'
    rw [List.append_nil]
    refine ⟨S1, a, k1.sub, r1, hp, fun z S2 H2 hR g hn ho => ?_⟩
    obtain ⟨hz1, hz2⟩ := hz z hR
    obtain ⟨_, _, dx, pv, sv, kf, kb, c⟩ := id ho
    refine ⟨z.a, dx, _, rfl, c.ob, look_none hm, ?_⟩
    show spM K f pre (.ref z.a :: ([] ++ [])) H2 Q Ex
    refine ⟨S2, .ref z.a, [], z.fp, z, (), rfl, g.sub, ho, fun p hp => ⟨(hn p hp).2, c.some hp⟩, rfl, hz1, fun v S3 H3 s1 s2 hk hc hl ho' r2 => ?_⟩
    have hfp : ∀ p o, H1 p = some o → p ∉ z.fp := fun p o e hp => by rw [(hn p hp).1] at e; cases e
    have g3 : Grow S1 H1 S3 H3 := ⟨g.s.trans s1, s2, fun p o e => hk p o (hfp p o e) (g.h p o e), fun p o e => (hc p o (g.h p o e)).trans (g.cl p o e)⟩
    exact q v S3 H3 (e1.trans g3.s) (k1.grow g3) (by rw [← hz2]; exact r2)
end
end GL

/-! Data of any shape, looked at. -/
namespace GL
open PySem PySem.Spec PyProof.Rows L2
instance : Inhabited Dat := ⟨.non⟩
namespace Dat
def isT : Dat → Bool
  | .tup _ => true
  | _ => false
def isL : Dat → Bool
  | .lst _ => true
  | _ => false
def isS : Dat → Bool
  | .str _ => true
  | _ => false
def isBl : Dat → Bool
  | .bl _ => true
  | _ => false
def isI : Dat → Bool
  | .int _ => true
  | .bl _ => true
  | _ => false
def isInt : Dat → Bool
  | .int _ => true
  | _ => false
def toI : Dat → Int
  | .int i => i
  | _ => 0
def items : Dat → List Dat
  | .tup l => l
  | .lst l => l
  | _ => []
end Dat
theorem isInt_of {d : Dat} (h1 : d.isI = true) (h2 : (!d.isBl) = true) : d.isInt = true := by
  cases d <;> first | rfl | exact absurd h1 Bool.false_ne_true | exact absurd h2 Bool.false_ne_true
theorem drep_ints {K : Fg} {S : Hp} : ∀ l : List Int, DRepL K S (l.map V.int) (l.map Dat.int)
  | [] => .nil
  | _ :: l => .cons (.int _) (drep_ints l)
section
variable {K : Fg} {G G1 : List Sl} {ta te : TE}
theorem ev_isTD {d : Dat} (ha : EvX K ta G d G1) : EvX K (tCB (rIsi K) (tCons ta (tCons (tC (.ty "tuple")) tNil))) G d.isT G1 := ev_isiD ha (by cases d <;> (first | rfl | decide +kernel))
theorem ev_isLD {d : Dat} (ha : EvX K ta G d G1) : EvX K (tCB (rIsi K) (tCons ta (tCons (tC (.ty "list")) tNil))) G d.isL G1 := ev_isiD ha (by cases d <;> (first | rfl | decide +kernel))
theorem ev_isSD {d : Dat} (ha : EvX K ta G d G1) : EvX K (tCB (rIsi K) (tCons ta (tCons (tC (.ty "str")) tNil))) G d.isS G1 := ev_isiD ha (by cases d <;> (first | rfl | decide +kernel))
theorem ev_isBD {d : Dat} (ha : EvX K ta G d G1) : EvX K (tCB (rIsi K) (tCons ta (tCons (tC (.ty "bool")) tNil))) G d.isBl G1 := ev_isiD ha (by cases d <;> (first | rfl | decide +kernel))
theorem ev_isID {d : Dat} (ha : EvX K ta G d G1) : EvX K (tCB (rIsi K) (tCons ta (tCons (tC (.ty "int")) tNil))) G d.isI G1 := ev_isiD ha (by cases d <;> (first | rfl | decide +kernel))
theorem EvX.asI {d : Dat} (h : EvX K te G d G1) (hd : d.isInt = true) : EvX K te G d.toI G1 := by
  cases d with
  | int i => exact h.unI
  | _ => exact absurd hd Bool.false_ne_true
theorem EvX.asT {d : Dat} (h : EvX K te G d G1) (hd : d.isT = true) : EvX K te G (Tp.mk d.items) G1 := by
  cases d with
  | tup l => exact h.unT
  | _ => exact absurd hd Bool.false_ne_true
theorem EvX.tpD {xs : Tp Int} (h : EvX K te G xs G1) : EvX K te G (Tp.mk (xs.l.map Dat.int)) G1 := fun B S0 S σ H F k Q q => h B S0 S σ H F k Q fun v S' H' e k' r => q v S' H' e k' (by
  obtain ⟨p, vs, h1, h2, h3⟩ := r
  exact ⟨p, vs, h1, h2, (RepL.toD h3).rep⟩)
instance : ToD WRow := ⟨fun r => .tup (.str r.word :: r.nums.map .int), fun ⟨p, h1, h2⟩ => by
  rw [h1]
  exact .tup h2 (.cons (.str _) (drep_ints _))⟩
instance {α β : Type} [Py α] [Py β] [ToD α] [ToD β] : ToD (H2 α β) := ⟨fun x => .lst [ToD.dat x.a, ToD.dat x.b], fun ⟨p, a, b, h1, h2, h3, h4⟩ => by rw [h1]; exact .lst h2 (.cons (ToD.of h3) (.cons (ToD.of h4) .nil))⟩
end
/-! what a stand is -/
def btwD (d : Dat) (lo hi : Int) : Bool := d.isInt && (decide (lo ≤ d.toI) && decide (d.toI ≤ hi))
theorem btw_ret {d : Dat} {lo hi : Int} : (d.isI && (!d.isBl && (decide (lo ≤ d.toI) && decide (d.toI ≤ hi)))) = btwD d lo hi := by
  unfold btwD
  cases d <;> rfl
theorem part_ret {d : Dat} {many : Int} : (d.isI && (!d.isBl && (decide (0 ≤ d.toI) && decide (d.toI < many)))) = btwD d 0 (many - 1) := by
  unfold btwD
  have : decide (d.toI < many) = decide (d.toI ≤ many - 1) := by
    apply decide_eq_decide.mpr
    omega
  rw [this]
  cases d <;> rfl
def standD (n w m : Int) (d : Dat) : Bool := d.isT && (decide (d.items.length = 2) && (btwD (ix d.items 0) 0 m && ((ix d.items 1).isT && (decide (((ix d.items 1).items.length : Int) = n) && (ix d.items 1).items.all fun x => btwD x 0 (w - 1)))))
theorem stand_no1 {n w m : Int} {d : Dat} (h : (!d.isT || (!decide ((d.items.length : Int) = 2) || !btwD (ix d.items 0) 0 m)) = true) : false = standD n w m d := by
  unfold standD
  have e : decide ((d.items.length : Int) = 2) = decide (d.items.length = 2) := decide_eq_decide.mpr (by omega)
  rw [e] at h
  revert h
  generalize d.isT = x1
  generalize decide (d.items.length = 2) = x2
  generalize btwD (ix d.items 0) 0 m = x3
  cases x1 <;> cases x2 <;> cases x3 <;> intro h <;> first | rfl | cases h
theorem stand_yes1 {m : Int} {d : Dat} (h : (!d.isT || (!decide ((d.items.length : Int) = 2) || !btwD (ix d.items 0) 0 m)) = false) : d.isT = true ∧ d.items.length = 2 ∧ btwD (ix d.items 0) 0 m = true := by
  have e : decide ((d.items.length : Int) = 2) = decide (d.items.length = 2) := decide_eq_decide.mpr (by omega)
  rw [e] at h
  obtain ⟨h1, h2⟩ := Bool.or_eq_false_iff.mp h
  obtain ⟨h3, h4⟩ := Bool.or_eq_false_iff.mp h2
  exact ⟨by simpa using h1, by simpa using h3, by simpa using h4⟩
theorem stand_no2 {n w m : Int} {d : Dat} (h : (!(ix d.items 1).isT || !decide (((ix d.items 1).items.length : Int) = n)) = true) : false = standD n w m d := by
  unfold standD
  revert h
  generalize d.isT = x1
  generalize decide (d.items.length = 2) = x2
  generalize btwD (ix d.items 0) 0 m = x3
  generalize (ix d.items 1).isT = x4
  generalize decide (((ix d.items 1).items.length : Int) = n) = x5
  cases x1 <;> cases x2 <;> cases x3 <;> cases x4 <;> cases x5 <;> intro h <;> first | rfl | cases h
theorem stand_end {n w m : Int} {d : Dat} {b : Bool} (h1 : d.isT = true ∧ d.items.length = 2 ∧ btwD (ix d.items 0) 0 m = true) (h2 : (!(ix d.items 1).isT || !decide (((ix d.items 1).items.length : Int) = n)) = false) (hb : b = (ix d.items 1).items.all fun x => btwD x 0 (w - 1)) : b = standD n w m d := by
  obtain ⟨a1, a2, a3⟩ := h1
  obtain ⟨a4, a5⟩ := Bool.or_eq_false_iff.mp h2
  have a4 : (ix d.items 1).isT = true := by simpa using a4
  have a5 : decide (((ix d.items 1).items.length : Int) = n) = true := by simpa using a5
  unfold standD
  rw [a1, decide_eq_true a2, a3, a4, a5, hb]
  rfl
theorem dle_items {k : Nat} {d : Dat} (h : DLe (k + 1) d) : d.items.length ≤ 1000000 ∧ ∀ x ∈ d.items, DLe k x := by
  cases h with
  | tup a b => exact ⟨a, b⟩
  | lst a b => exact ⟨a, b⟩
  | _ => exact ⟨Nat.zero_le _, fun x hx => nomatch hx⟩
theorem dle_up : ∀ {k : Nat} {d : Dat}, DLe k d → DLe (k + 1) d
  | _, _, .non => .non
  | _, _, .int => .int
  | _, _, .bl => .bl
  | _, _, .str => .str
  | _, _, .tup a b => .tup a fun x hx => dle_up (b x hx)
  | _, _, .lst a b => .lst a fun x hx => dle_up (b x hx)
end GL

namespace GL
open PySem PySem.Spec PyProof.Rows L2
/-! ### a tick keeps stands stands; its told thing is small data -/
def LetOk (g : Prog) (l : List Int) : Prop := ∀ x ∈ l, 0 ≤ x ∧ x < g.b
theorem with_ok {g : Prog} {s : Tp Int} {p v : Int} (hl : (s.l.length : Int) = g.a) (hn : ∀ x ∈ s.l, 0 ≤ x ∧ x < g.b) (hp : 0 ≤ p ∧ p < g.a) (hv : 0 ≤ v ∧ v < g.b) : ((withM s p v).l.length : Int) = g.a ∧ ∀ x ∈ (withM s p v).l, 0 ≤ x ∧ x < g.b := by
  rw [with_set (by omega)]
  refine ⟨by dsimp only; rw [List.length_set]; exact hl, fun x hx => ?_⟩
  rcases List.mem_or_eq_of_mem_set hx with h | h
  · exact hn x h
  · rw [h]; exact hv
theorem tick_cases (P : TickR → Prop) {g : Prog} {s : Stand} {letters : List Int} (h1 : rowAtM g s = none → P ⟨s, Str.ofString "ended", none, ⟨[]⟩, ⟨[]⟩⟩) (h2 : ∀ p, rowAtM g s = some (.take p) → letters = [] → P ⟨s, Str.ofString "waits", none, ⟨[]⟩, ⟨[]⟩⟩) (h3 : ∀ r, rowAtM g s = some r → (r.isTake = true → letters ≠ []) → P (doneM g s r letters)) : P (tickM g s letters) := by
  unfold tickM
  cases e : rowAtM g s with
  | none => exact h1 e
  | some r =>
    dsimp only
    split
    · rename_i hc
      obtain ⟨c1, c2⟩ := Bool.and_eq_true_iff.mp hc
      cases r <;> first | exact absurd c1 Bool.false_ne_true | exact h2 _ e (of_decide_eq_true c2)
    · rename_i hc
      exact h3 r e fun ht hl => hc (by rw [ht, hl]; rfl)
theorem tick_ok {g : Prog} {s : Stand} {letters : List Int} (hg : ProgOk g) (hs : StandOk g s) (hl : LetOk g letters) : StandOk g (tickM g s letters).a := by
  refine tick_cases (fun t => StandOk g t.a) (fun _ => hs) (fun _ _ _ => hs) fun r hr ht => ?_
  obtain ⟨h1, h2, h3, h4⟩ := tick_row hg hs hr
  have ha := hs.a0
  have hw := hg.w0
  have key : (0 ≤ dGo s.1 s.2 r ∧ dGo s.1 s.2 r ≤ g.c.l.length) ∧ ((dSh g.b s.2 letters r).l.length : Int) = g.a ∧ ∀ x ∈ (dSh g.b s.2 letters r).l, 0 ≤ x ∧ x < g.b := by
    cases r with
    | set p v => exact ⟨by dsimp only [dGo]; omega, with_ok hs.len hs.nums h4.1 h4.2⟩
    | add p q => exact ⟨by dsimp only [dGo]; omega, with_ok hs.len hs.nums h4.1 ⟨Int.emod_nonneg _ (by omega), Int.emod_lt_of_pos _ (by omega)⟩⟩
    | jump p q =>
      refine ⟨?_, hs.len, hs.nums⟩
      have := h4.2
      dsimp only [dGo]
      split <;> omega
    | say p => exact ⟨by dsimp only [dGo]; omega, hs.len, hs.nums⟩
    | take p =>
      refine ⟨by dsimp only [dGo]; omega, with_ok hs.len hs.nums h4 (hl _ (ix_mem (by decide) ?_))⟩
      have := List.length_pos_iff.mpr (ht rfl)
      omega
    | fin => exact absurd rfl h3
  exact ⟨key.1.1, key.1.2, key.2.1, key.2.2⟩
theorem reads_len (r : WRow) : (readsM r).l.length ≤ 2 := by
  cases r with
  | add p q =>
    show (usrt [p, q]).length ≤ 2
    rw [usrt_two]
    by_cases e : p = q
    · rw [decide_eq_true e, if_pos rfl]; show 1 ≤ 2; decide
    · rw [decide_eq_false e, if_neg (by decide)]; show 2 ≤ 2; decide
  | _ => simp [readsM]
theorem writes_len (r : WRow) : (writesM r).l.length ≤ 1 := by cases r <;> simp [writesM]
theorem dle_tp (k : Nat) {x : Tp Int} (h : x.l.length ≤ 1000000) : DLe (k + 1) (ToD.dat x) := .tup (by rw [List.length_map]; exact h) (dle_ints k _)
theorem dle_opt (k : Nat) (x : Option Int) : DLe k (ToD.dat x) := by cases x with
  | none => exact .non
  | some y => exact .int
theorem dle_stand (k : Nat) {g : Prog} {s : Stand} (hg : ProgOk g) (hs : StandOk g s) : DLe (k + 2) (ToD.dat s) := by
  refine .tup (by simp) fun y hy => ?_
  rcases List.mem_cons.mp hy with e | e
  · rw [e]; exact .int
  · rw [List.mem_singleton.mp e]
    have := hs.len
    have := hg.n1
    exact dle_tp k (by omega)
theorem dle_t5 (k : Nat) {g : Prog} {x : TickR} (hg : ProgOk g) (hs : StandOk g x.a) (h1 : x.d.l.length ≤ 2) (h2 : x.e.l.length ≤ 1) : DLe (k + 3) (ToD.dat x) := by
  refine .tup (by simp) fun y hy => ?_
  simp only [List.mem_cons, List.mem_nil_iff, or_false] at hy
  rcases hy with e | e | e | e | e <;> rw [e]
  · exact dle_stand k hg hs
  · exact .str
  · exact dle_opt _ _
  · exact dle_tp (k + 1) (by omega)
  · exact dle_tp (k + 1) (by omega)
theorem tick_rl {g : Prog} {s : Stand} {letters : List Int} : (tickM g s letters).d.l.length ≤ 2 ∧ (tickM g s letters).e.l.length ≤ 1 :=
  tick_cases (fun t => t.d.l.length ≤ 2 ∧ t.e.l.length ≤ 1) (fun _ => by simp) (fun _ _ _ => by simp) fun r _ _ => ⟨reads_len r, writes_len r⟩
theorem dat_tick {g : Prog} {s : Stand} {letters : List Int} (hg : ProgOk g) (hs : StandOk g s) (hl : LetOk g letters) : DLe 4 (ToD.dat (tickM g s letters)) :=
  dle_t5 1 hg (tick_ok hg hs hl) tick_rl.1 tick_rl.2
theorem let_ok {g : Prog} {z : Pen} {many : Int} (h : 0 < g.b) : LetOk g (mapX (fun st (_ : Int) => (penTake st g.b).1) (fun st _ => (penTake st g.b).2) (rng 0 many) z).1 :=
  mapX_all (fun x => 0 ≤ x ∧ x < g.b) (fun st _ => pen_bd st h) _ _
end GL

namespace GL
open PySem PySem.Spec PyProof.Rows L2
variable {C : Addr}
/-! ### a carried program's calls -/
structure CarOk (z : Car C) : Prop where
  g : ProgOk z.g
  s : StandOk z.g z.st
  l : LetOk z.g z.wait
  wl : z.wait.length ≤ 100000
  sl : z.said.length ≤ 100000
def lksM (z : Car C) : List Int := match rowAtM z.g z.st with
  | none => []
  | some r => (readsM r).l.filter fun p => (z.absent.get? p).isSome
def wentM (z : Car C) (t : TickR) : Car C := { z with st := t.a, wait := if decide (t.b = Str.ofString "took") = true then z.wait.drop 1 else z.wait, said := if decide (t.b = Str.ofString "said") = true then z.said ++ [t.c.getD default] else z.said, fresh := t.e.l.foldl Dct.del z.fresh, absent := t.e.l.foldl Dct.del z.absent, done := z.done + 1 }
@[irreducible] def tickC (z : Car C) : Tw × Car C :=
  if z.still = true then (⟨Str.ofString "still", []⟩, z)
  else if lksM z ≠ [] then (⟨Str.ofString "lacks", [some (ix (lksM z) 0)]⟩, z)
  else (⟨(tickM z.g z.st z.wait).b, [(tickM z.g z.st z.wait).c]⟩, wentM z (tickM z.g z.st z.wait))
theorem tickC_fp (z : Car C) : Anch.fp (tickC z).2 = Anch.fp z := by
  unfold tickC
  split
  · rfl
  split
  · rfl
  · rfl
@[irreducible] def lfM (z : Car C) : List Int := (rng 0 z.g.a).filter fun p => !(z.fresh.get? p).isSome
@[irreducible] def copyC (z : Car C) (p : Int) : Car C := { z with fresh := z.fresh.put p true, made := z.made + 1 }
@[irreducible] def letterC (z : Car C) (v : Int) : Car C := { z with wait := z.wait ++ [v] }
@[irreducible] def stillC (z : Car C) : Car C := { z with still := true }
@[irreducible] def goesC (z : Car C) : Car C := { z with place := z.goal.getD default, goal := none, still := false }
@[irreducible] def lackC (z : Car C) (l : List Int) : Car C := { z with absent := l.foldl (fun d p => d.put p true) z.absent }
@[irreducible] def bringC (z : Car C) (p : Int) : Car C := { z with absent := z.absent.del p }
@[irreducible] def dropC (z : Car C) : Car C := { z with goal := none, still := false }
def BegR (z : Car C) (h : Int) (z' : Car C) : Prop := ∃ f', z' = { z with f := f', goal := some h, still := false, fresh := Dct.emp, made := 0 }
theorem copy_fp (z : Car C) (p : Int) : Anch.fp (copyC z p) = Anch.fp z := by unfold copyC; rfl
theorem letter_fp (z : Car C) (p : Int) : Anch.fp (letterC z p) = Anch.fp z := by unfold letterC; rfl
theorem still_fp (z : Car C) : Anch.fp (stillC z) = Anch.fp z := by unfold stillC; rfl
theorem goes_fp (z : Car C) : Anch.fp (goesC z) = Anch.fp z := by unfold goesC; rfl
theorem lack_fp (z : Car C) (l : List Int) : Anch.fp (lackC z l) = Anch.fp z := by unfold lackC; rfl
theorem bring_fp (z : Car C) (p : Int) : Anch.fp (bringC z p) = Anch.fp z := by unfold bringC; rfl
theorem drop_fp (z : Car C) : Anch.fp (dropC z) = Anch.fp z := by unfold dropC; rfl
theorem put_len {d : Dct Bool} {k : Int} {x : Bool} : (d.put k x).l.length ≤ d.l.length + 1 := by
  unfold Dct.put
  dsimp only
  split
  · rw [List.length_map]; omega
  · rw [List.length_append]; exact Nat.le_refl _
theorem del_len {d : Dct Bool} {k : Int} : (d.del k).l.length ≤ d.l.length := List.length_filter_le _ _
theorem puts_len : ∀ (l : List Int) (d : Dct Bool), (l.foldl (fun d p => d.put p true) d).l.length ≤ d.l.length + l.length
  | [], d => Nat.le_refl _
  | p :: l, d => by
    have h1 := puts_len l (d.put p true)
    have h2 := put_len (d := d) (k := p) (x := true)
    rw [List.foldl_cons, List.length_cons]
    omega
theorem took_ne2 {g : Prog} {s : Stand} {letters : List Int} (h : decide ((tickM g s letters).b = Str.ofString "took") = true) : letters ≠ [] := by
  refine tick_cases (fun t => decide (t.b = Str.ofString "took") = true → letters ≠ []) (fun _ h => absurd h (by show ¬ decide (Str.ofString "ended" = Str.ofString "took") = true; decide +kernel)) (fun _ _ _ h => absurd h (by show ¬ decide (Str.ofString "waits" = Str.ofString "took") = true; decide +kernel)) (fun r hr ht h => ?_) h
  cases r with
  | take p => exact ht rfl
  | set p v => exact absurd h (by show ¬ decide (Str.ofString "did" = Str.ofString "took") = true; decide +kernel)
  | add p v => exact absurd h (by show ¬ decide (Str.ofString "did" = Str.ofString "took") = true; decide +kernel)
  | jump p v => exact absurd h (by show ¬ decide (Str.ofString "did" = Str.ofString "took") = true; decide +kernel)
  | say p => exact absurd h (by show ¬ decide (Str.ofString "said" = Str.ofString "took") = true; decide +kernel)
  | fin => exact absurd h (by show ¬ decide (Str.ofString "did" = Str.ofString "took") = true; decide +kernel)
theorem said_some {g : Prog} {s : Stand} {letters : List Int} (h : decide ((tickM g s letters).b = Str.ofString "said") = true) : (tickM g s letters).c.isSome = true := by
  refine tick_cases (fun t => decide (t.b = Str.ofString "said") = true → t.c.isSome = true) (fun _ h => absurd h (by show ¬ decide (Str.ofString "ended" = Str.ofString "said") = true; decide +kernel)) (fun _ _ _ h => absurd h (by show ¬ decide (Str.ofString "waits" = Str.ofString "said") = true; decide +kernel)) (fun r hr ht h => ?_) h
  cases r with
  | say p => rfl
  | set p v => exact absurd h (by show ¬ decide (Str.ofString "did" = Str.ofString "said") = true; decide +kernel)
  | add p v => exact absurd h (by show ¬ decide (Str.ofString "did" = Str.ofString "said") = true; decide +kernel)
  | jump p v => exact absurd h (by show ¬ decide (Str.ofString "did" = Str.ofString "said") = true; decide +kernel)
  | take p => rfl
  | fin => exact absurd h (by show ¬ decide (Str.ofString "did" = Str.ofString "said") = true; decide +kernel)
theorem lks_none {z : Car C} (h : (rowAtM z.g z.st).isSome = false) : lksM z = [] := by
  unfold lksM
  cases e : rowAtM z.g z.st with
  | none => rfl
  | some r => rw [e] at h; cases h
theorem lack_some {z : Car C} {r : WRow} (h : rowAtM z.g z.st = some r) : lksM z = (readsM r).l.filter fun p => (z.absent.get? p).isSome := by
  unfold lksM
  rw [h]
end GL
namespace GL
open PySem PySem.Spec PyProof.Rows L2
variable {C : Addr}
def popBoth (z : Car C) (p : Int) : Car C := { z with fresh := z.fresh.del p, absent := z.absent.del p }
theorem popBoth_fold : ∀ (l : List Int) (z : Car C), l.foldl popBoth z = { z with fresh := l.foldl Dct.del z.fresh, absent := l.foldl Dct.del z.absent }
  | [], z => rfl
  | p :: l, z => by rw [List.foldl_cons, popBoth_fold l]; rfl
theorem lackC_snoc (z : Car C) (l : List Int) (p : Int) : lackC z (l ++ [p]) = { lackC z l with absent := (lackC z l).absent.put p true } := by
  unfold lackC
  rw [List.foldl_append]
  rfl
theorem lackC_len (z : Car C) (l : List Int) : (lackC z l).absent.l.length ≤ z.absent.l.length + l.length := by
  unfold lackC
  exact puts_len l z.absent
theorem clf_len (z : Car C) : (lfM z).length ≤ z.g.a.toNat := by
  unfold lfM
  refine Nat.le_trans (List.length_filter_le _ _) ?_
  rw [len_rng]
  omega
theorem lackC_goal (z : Car C) (l : List Int) : (lackC z l).goal = z.goal ∧ (lackC z l).made = z.made := by unfold lackC; exact ⟨rfl, rfl⟩
theorem tick_end {z : Car C} {z' : Car C} {w : Tw} (h0 : z.still = false) (h1 : lksM z = []) (hw : w = ⟨(tickM z.g z.st z.wait).b, [(tickM z.g z.st z.wait).c]⟩) (hz : z' = wentM z (tickM z.g z.st z.wait)) : (w, z') = tickC z := by
  unfold tickC
  rw [if_neg (by rw [h0]; decide), if_neg (by simp [h1]), hw, hz]
end GL
namespace GL
open PySem PySem.Spec PyProof.Rows L2
variable {C : Addr}
theorem get_os {o : Option WRow} (h : o.isSome = true) : o = some (o.getD default) := by
  cases o with
  | none => cases h
  | some r => rfl
theorem tick_lacks {z : Car C} {l : List Int} (h0 : z.still = false) (h1 : l = lksM z) (h2 : l ≠ []) : ((⟨Str.ofString "lacks", [some (ix l 0)]⟩, z) : Tw × Car C) = tickC z := by
  unfold tickC
  rw [if_neg (by rw [h0]; decide), ← h1, if_pos h2]
end GL
namespace GL
open PySem PySem.Spec PyProof.Rows L2
variable {C : Addr}
theorem went_eq {z z2 z4 z6 z9 : Car C} {t : TickR} (h2 : z2 = { z with st := t.a }) (h4 : z4 = if decide (t.b = Str.ofString "took") = true then ({ z2 with wait := z2.wait.drop 1 } : Car C) else z2) (h6 : z6 = if decide (t.b = Str.ofString "said") = true then ({ z4 with said := z4.said ++ [t.c.getD default] } : Car C) else z4)
    (h9 : z9 = { (t.e.l.foldl popBoth z6) with done := (t.e.l.foldl popBoth z6).done + 1 }) : z9 = wentM z t := by
  rw [h9, popBoth_fold, h6, h4, h2]
  unfold wentM
  generalize decide (t.b = Str.ofString "took") = b1
  generalize decide (t.b = Str.ofString "said") = b2
  cases b1 <;> cases b2 <;> rfl
end GL

namespace GL
open PySem PySem.Spec PyProof.Rows L2
theorem rev_indU {α : Type} {P : List α → Prop} (h0 : P []) (hs : ∀ xs x, P xs → P (xs ++ [x])) (xs : List α) : P xs := by
  have h : ∀ ys : List α, P ys.reverse := fun ys => by
    induction ys with
    | nil => exact h0
    | cons y ys ih => rw [List.reverse_cons]; exact hs _ _ ih
  have := h xs.reverse
  rwa [List.reverse_reverse] at this
theorem ix_get {α : Type} [Inhabited α] {xs : List α} {i : Int} (h0 : 0 ≤ i) (h : i.toNat < xs.length) : ix xs i = xs[i.toNat] := by
  have e := ix_at (xs := xs) h0 (by omega)
  rw [List.getElem?_eq_getElem h] at e
  exact (Option.some.inj e).symm
/-! ### letters and runs -/
abbrev Lets := List (Int × Int)
structure LetsOk (g : Prog) (l : Lets) : Prop where
  srt : (l.map (·.1)).Pairwise (· ≤ ·)
  nums : ∀ x ∈ l, 0 ≤ x.2 ∧ x.2 < g.b
  len : l.length ≤ 1000
def availM (l : Lets) (now : Int) : List Int := (l.filter (fun x => decide (x.1 ≤ now))).map (·.2)
abbrev Said := List (Int × Option Int)
abbrev Tou := List (Tp Int × Tp Int)
abbrev RunS := Int × Stand × Said × Tou
@[irreducible] def runStep (g : Prog) (l : Lets) (st : RunS) (now : Int) : RunS :=
  let t := tickM g st.2.1 ((availM l now).drop st.1.toNat)
  (st.1 + (if decide (t.b = Str.ofString "took") = true then 1 else 0), t.a, if decide (t.b = Str.ofString "said") = true then st.2.2.1 ++ [(now, t.c)] else st.2.2.1, st.2.2.2 ++ [(t.d, t.e)])
@[irreducible] def runF (g : Prog) (s : Stand) (l : Lets) (xs : List Int) : RunS := xs.foldl (runStep g l) (0, s, [], [])
@[irreducible] def runM (g : Prog) (s : Stand) (l : Lets) (many : Int) : T3 Stand Said Tou := ⟨(runF g s l (rng 0 many)).2.1, (runF g s l (rng 0 many)).2.2.1, (runF g s l (rng 0 many)).2.2.2⟩
theorem run_nil (g : Prog) (s : Stand) (l : Lets) : runF g s l [] = (0, s, [], []) := by unfold runF; rfl
theorem run_snoc (g : Prog) (s : Stand) (l : Lets) (xs : List Int) (n : Int) : runF g s l (xs ++ [n]) = runStep g l (runF g s l xs) n := by
  unfold runF; rw [List.foldl_append]; rfl
theorem avail_ok {g : Prog} {l : Lets} (h : LetsOk g l) (now : Int) (u : Nat) : LetOk g ((availM l now).drop u) ∧ ((availM l now).drop u).length ≤ 100000 := by
  refine ⟨fun x hx => ?_, ?_⟩
  · obtain ⟨y, hy, e⟩ := List.mem_map.mp (List.mem_of_mem_drop hx)
    rw [← e]
    exact h.nums y (List.mem_filter.mp hy).1
  · have := h.len
    have := List.length_filter_le (fun x : Int × Int => decide (x.1 ≤ now)) l
    rw [List.length_drop]
    unfold availM
    rw [List.length_map]
    omega
theorem runStep_stand {g : Prog} {l : Lets} {st : RunS} {now : Int} : (runStep g l st now).2.1 = (tickM g st.2.1 ((availM l now).drop st.1.toNat)).a := by unfold runStep; rfl
theorem runStep_used {g : Prog} {l : Lets} {st : RunS} {now : Int} : (runStep g l st now).1 = st.1 + (if decide ((tickM g st.2.1 ((availM l now).drop st.1.toNat)).b = Str.ofString "took") = true then 1 else 0) := by unfold runStep; rfl
theorem run_ok {g : Prog} {s : Stand} {l : Lets} (hg : ProgOk g) (hs : StandOk g s) (hl : LetsOk g l) (xs : List Int) : StandOk g (runF g s l xs).2.1 ∧ 0 ≤ (runF g s l xs).1 := by
  refine rev_indU (P := fun xs => StandOk g (runF g s l xs).2.1 ∧ 0 ≤ (runF g s l xs).1) ?_ (fun xs n ih => ?_) xs
  · rw [run_nil]; exact ⟨hs, Int.le_refl _⟩
  · rw [run_snoc, runStep_stand, runStep_used]
    refine ⟨tick_ok hg ih.1 (avail_ok hl n _).1, ?_⟩
    have := ih.2
    split <;> omega
theorem run_len {g : Prog} {s : Stand} {l : Lets} (xs : List Int) : (runF g s l xs).2.2.2.length = xs.length ∧ (runF g s l xs).2.2.1.length ≤ xs.length := by
  refine rev_indU (P := fun xs => (runF g s l xs).2.2.2.length = xs.length ∧ (runF g s l xs).2.2.1.length ≤ xs.length) ?_ (fun xs n ih => ?_) xs
  · rw [run_nil]; simp
  · rw [run_snoc]
    unfold runStep
    dsimp only
    rw [List.length_append, List.length_append, ih.1]
    refine ⟨rfl, ?_⟩
    have := ih.2
    split
    · rw [List.length_append]; simp; omega
    · simp; omega
theorem cut_drop {α : Type} {l : List α} {u : Int} (h : 0 ≤ u) : cutL l (some u) none = l.drop u.toNat := by
  have e : u = ((u.toNat : Nat) : Int) := by omega
  unfold cutL
  rw [e, HT.sIx_none, HT.sIx_nat, Int.toNat_natCast]
  by_cases hh : u.toNat ≤ l.length
  · rw [Nat.min_eq_left hh, List.take_of_length_le (by rw [List.length_drop]; omega)]
  · rw [Nat.min_eq_right (by omega), List.drop_of_length_le (l := l) (i := u.toNat) (by omega), List.drop_length]; simp
/-- the law's own run, a tick more -/
theorem run_law {g : Prog} {s : Stand} {l : Lets} {pre : List Int} {now used : Int} {stand : Stand} {said : Said} {touched : Tou} {t : TickR} (hI : (used, stand, said, touched) = runF g s l pre) (ht : t = tickM g stand ((availM l now).drop used.toNat)) :
    (used + (if decide (t.b = Str.ofString "took") = true then 1 else 0), t.a, (if decide (t.b = Str.ofString "said") = true then said ++ [(now, t.c)] else said), touched ++ [(t.d, t.e)]) = runF g s l (pre ++ [now]) := by
  rw [run_snoc, ← hI, ht]
  unfold runStep
  rfl
/-! ### the program's run -/
structure WgI (l : Lets) (used now : Int) (st : List Int × Int) : Prop where
  c0 : 0 ≤ st.2
  c1 : st.2 ≤ l.length
  u1 : used ≤ st.2
  w : st.1 = ((l.take st.2.toNat).map (·.2)).drop used.toNat
  le : ∀ x ∈ l.take st.2.toNat, x.1 ≤ now
theorem WgI.step {l : Lets} {used now : Int} {wt : List Int} {come : Int} (hu : 0 ≤ used) (h : WgI l used now (wt, come)) (hc : come < l.length) (hn : (ix l come).1 ≤ now) : WgI l used now (wt ++ [(ix l come).2], come + 1) := by
  obtain ⟨c0, c1, u1, w, le⟩ := h
  dsimp only at *
  have hlt : come.toNat < l.length := by omega
  have e : (come + 1).toNat = come.toNat + 1 := by omega
  have ei : ix l come = l[come.toNat] := ix_get c0 hlt
  have et : l.take (come.toNat + 1) = l.take come.toNat ++ [ix l come] := by rw [ei, List.take_succ_eq_append_getElem hlt]
  refine ⟨by dsimp only; omega, by dsimp only; omega, by dsimp only; omega, ?_, ?_⟩
  · dsimp only
    rw [e, et, List.map_append, List.drop_append_of_le_length (by rw [List.length_map, List.length_take]; omega), ← w]
    rfl
  · dsimp only
    rw [e, et]
    intro x hx
    rcases List.mem_append.mp hx with q | q
    · exact le x q
    · rw [List.mem_singleton.mp q]; exact hn
theorem filter_take {l : Lets} {now : Int} {k : Nat} (hs : (l.map (·.1)).Pairwise (· ≤ ·)) (h1 : ∀ x ∈ l.take k, x.1 ≤ now) (h2 : ∀ x, l[k]? = some x → now < x.1) : l.filter (fun x => decide (x.1 ≤ now)) = l.take k := by
  induction l generalizing k with
  | nil => simp
  | cons y l ih =>
    rw [List.map_cons, List.pairwise_cons] at hs
    cases k with
    | zero =>
      have h := h2 y rfl
      rw [List.take_zero, List.filter_eq_nil_iff]
      intro x hx
      rcases List.mem_cons.mp hx with e | e
      · rw [e]; simp; omega
      · have := hs.1 x.1 (List.mem_map.mpr ⟨x, e, rfl⟩)
        simp
        omega
    | succ k =>
      have h := h1 y (by simp)
      rw [List.take_succ_cons, List.filter_cons, if_pos (by simp; exact h), ih hs.2 (fun x hx => h1 x (by rw [List.take_succ_cons]; exact List.mem_cons_of_mem _ hx)) (fun x hx => h2 x (by simpa using hx))]
theorem WgI.done {l : Lets} {used now : Int} {wt : List Int} {come : Int} (hs : (l.map (·.1)).Pairwise (· ≤ ·)) (h : WgI l used now (wt, come)) (hc : (decide (come < (l.length : Int)) && decide ((ix l come).1 ≤ now)) = false) : wt = (availM l now).drop used.toNat ∧ l.take come.toNat = l.filter (fun x => decide (x.1 ≤ now)) := by
  obtain ⟨c0, c1, u1, w, le⟩ := h
  dsimp only at *
  have e := filter_take (k := come.toNat) hs le fun x hx => by
    obtain ⟨hlt, e⟩ := List.getElem?_eq_some_iff.mp hx
    have ei : ix l come = l[come.toNat] := ix_get c0 hlt
    rw [ei, e] at hc
    rcases Bool.and_eq_false_iff.mp hc with q | q
    · have := of_decide_eq_false q; omega
    · have := of_decide_eq_false q; omega
  exact ⟨by unfold availM; rw [e]; exact w, e.symm⟩
structure GonI (g : Prog) (s : Stand) (l : Lets) (pre : List Int) (st : List Int × Said × Tou × Int × Stand) : Prop where
  said : st.2.1 = (runF g s l pre).2.2.1
  fnd : st.2.2.1 = (runF g s l pre).2.2.2
  stand : st.2.2.2.2 = (runF g s l pre).2.1
  wg : ∀ now, (∀ p ∈ pre, p < now) → WgI l (runF g s l pre).1 now (st.1, st.2.2.2.1)
theorem GonI.start (g : Prog) (s : Stand) (l : Lets) : GonI g s l [] ([], [], [], 0, s) :=
  ⟨by rw [run_nil], by rw [run_nil], by rw [run_nil], fun now _ => by rw [run_nil]; exact ⟨Int.le_refl _, by dsimp only; omega, Int.le_refl _, by simp, by simp⟩⟩
theorem took_ne {g : Prog} {s : Stand} {l : List Int} (h : decide ((tickM g s l).b = Str.ofString "took") = true) : l ≠ [] := by
  revert h
  refine tick_cases (fun t => decide (t.b = Str.ofString "took") = true → l ≠ []) (fun _ h => ?_) (fun _ _ _ h => ?_) (fun r _ ht h => ?_)
  · exact absurd (of_decide_eq_true h) (show ¬ Str.ofString "ended" = Str.ofString "took" by decide +kernel)
  · exact absurd (of_decide_eq_true h) (show ¬ Str.ofString "waits" = Str.ofString "took" by decide +kernel)
  · have h' : dWo r = Str.ofString "took" := of_decide_eq_true h
    cases r with
    | take p => exact ht rfl
    | say p => exact absurd h' (show ¬ Str.ofString "said" = Str.ofString "took" by decide +kernel)
    | _ => exact absurd h' (show ¬ Str.ofString "did" = Str.ofString "took" by decide +kernel)
theorem GonI.step {g : Prog} {s : Stand} {l : Lets} {pre post : List Int} {now many : Int} {wt0 wt : List Int} {said : Said} {fnd : Tou} {come0 come : Int} {stand : Stand} {t : TickR} (hg : ProgOk g) (hs : StandOk g s) (hl : LetsOk g l) (ex : pre ++ now :: post = rng 0 many)
    (h : GonI g s l pre (wt0, said, fnd, come0, stand)) (hw : WgI l (runF g s l pre).1 now (wt, come)) (he : wt = (availM l now).drop (runF g s l pre).1.toNat) (ht : t = tickM g stand wt) :
    GonI g s l (pre ++ [now]) ((if decide (t.b = Str.ofString "took") = true then wt.drop 1 else wt), (if decide (t.b = Str.ofString "said") = true then said ++ [(now, t.c)] else said), fnd ++ [(t.d, t.e)], come, t.a) := by
  obtain ⟨h1, h2, h3, h4⟩ := h
  dsimp only at h1 h2 h3
  have hu := (run_ok hg hs hl pre).2
  have hr := run_law (s := s) (pre := pre) (now := now) (t := t) (used := (runF g s l pre).1) (stand := stand) (said := said) (touched := fnd) (by rw [h1, h2, h3]) (by rw [ht, he])
  refine ⟨by rw [← hr], by rw [← hr], by rw [← hr], fun now' hn' => ?_⟩
  have hn : now < now' := hn' now (by simp)
  rw [← hr]
  obtain ⟨c0, c1, u1, w, le⟩ := hw
  dsimp only at c0 c1 u1 w le ⊢
  have lt : ((l.take come.toNat).map (fun x : Int × Int => x.2)).length = come.toNat := by rw [List.length_map, List.length_take]; omega
  by_cases hk : decide (t.b = Str.ofString "took") = true
  · have hne := took_ne (by rw [← ht]; exact hk)
    have : (runF g s l pre).1.toNat < come.toNat := by
      have := List.length_pos_iff.mpr hne
      rw [w, List.length_drop, lt] at this
      omega
    rw [if_pos hk, if_pos hk]
    refine ⟨c0, c1, by dsimp only; omega, ?_, fun x hx => by have := le x hx; omega⟩
    dsimp only
    rw [w, List.drop_drop]
    congr 1
    omega
  · rw [if_neg hk, if_neg hk]
    exact ⟨c0, c1, by dsimp only; omega, by dsimp only; rw [Int.add_zero]; exact w, fun x hx => by have := le x hx; omega⟩
theorem runM_of {g : Prog} {s : Stand} {l : Lets} {many : Int} {used : Int} {stand : Stand} {said : Said} {touched : Tou} (h : (used, stand, said, touched) = runF g s l (rng 0 many)) : (⟨stand, said, touched⟩ : T3 Stand Said Tou) = runM g s l many := by
  unfold runM; rw [← h]
theorem runM_gon {g : Prog} {s : Stand} {l : Lets} {many : Int} {wt : List Int} {said : Said} {fnd : Tou} {come : Int} {stand : Stand} (h : GonI g s l (rng 0 many) (wt, said, fnd, come, stand)) : (⟨stand, said, fnd⟩ : T3 Stand Said Tou) = runM g s l many := by
  obtain ⟨h1, h2, h3, -⟩ := h
  dsimp only at h1 h2 h3
  unfold runM; rw [h1, h2, h3]
/-! ### drawn letters -/
theorem mapX_map {τ α β : Type} {e : τ → α → β} {step : τ → α → τ} {f : β → α} (h : ∀ s x, f (e s x) = x) (xs : List α) (s0 : τ) : (mapX e step xs s0).1.map f = xs := by
  unfold mapX
  have : ∀ (l : List α) (a : List β) (s : τ), (l.foldl (fun (a : List β × τ) x => (a.1 ++ [e a.2 x], step a.2 x)) (a, s)).1.map f = a.map f ++ l := by
    intro l
    induction l with
    | nil => intro a s; simp
    | cons x l ih =>
      intro a s
      rw [List.foldl_cons, ih, List.map_append]
      simp [h]
  exact (this xs [] s0).trans (by simp)
theorem lets_ok {g : Prog} {z : Pen} {ts : List Int} (hg : 0 < g.b) (hs : ts.Pairwise (· ≤ ·)) (hl : ts.length ≤ 1000) : LetsOk g (mapX (fun st (x : Int) => (x, (penTake st g.b).1)) (fun st _ => (penTake st g.b).2) ts z).1 :=
  ⟨by rw [mapX_map (f := fun x : Int × Int => x.1) (fun _ _ => rfl)]; exact hs, mapX_all (fun x : Int × Int => 0 ≤ x.2 ∧ x.2 < g.b) (fun st _ => pen_bd st hg) _ _, by rw [mapX_len]; exact hl⟩
theorem lets_fp {g : Prog} {z : Pen} {ts : List Int} : Anch.fp (mapX (fun st (x : Int) => (x, (penTake st g.b).1)) (fun st _ => (penTake st g.b).2) ts z).2 = Anch.fp z :=
  mapX_inv (fun st => Anch.fp st = Anch.fp z) (fun s x h => by rw [pen_fp]; exact h) ts z rfl
theorem tks_fp {most : Int} {z : Pen} {ts : List Int} : Anch.fp (mapX (fun st (_ : Int) => (penTake (penTake st 2).2 (ix [3, most + 2] (penTake st 2).1)).1) (fun st _ => (penTake (penTake st 2).2 (ix [3, most + 2] (penTake st 2).1)).2) ts z).2 = Anch.fp z :=
  mapX_inv (fun st => Anch.fp st = Anch.fp z) (fun s x h => by rw [pen_fp, pen_fp]; exact h) ts z rfl
/-! ### told runs are small data -/
theorem dle_said (k : Nat) {x : Said} (h : x.length ≤ 1000000) : DLe (k + 2) (ToD.dat x) := by
  refine .lst (by rw [List.length_map]; exact h) fun y hy => ?_
  obtain ⟨z, -, e⟩ := List.mem_map.mp hy
  rw [← e]
  refine .tup (by simp) fun w hw => ?_
  rcases List.mem_cons.mp hw with e | e
  · rw [e]; exact .int
  · rw [List.mem_singleton.mp e]; exact dle_opt _ _
theorem runM_ok {g : Prog} {s : Stand} {l : Lets} {many : Int} (hg : ProgOk g) (hs : StandOk g s) (hl : LetsOk g l) : StandOk g (runM g s l many).a ∧ (runM g s l many).b.length ≤ many.toNat ∧ (runM g s l many).c.length = many.toNat := by
  have h := run_len (g := g) (s := s) (l := l) (rng 0 many)
  rw [len_rng, Int.sub_zero] at h
  unfold runM
  exact ⟨(run_ok hg hs hl _).1, h.2, h.1⟩
theorem dat_run {g : Prog} {s : Stand} {l : Lets} {many : Int} (hg : ProgOk g) (hs : StandOk g s) (hl : LetsOk g l) (hm : many ≤ 100000) : DLe 3 (ToD.dat (((runM g s l many).a, (runM g s l many).b) : Stand × Said)) := by
  obtain ⟨h1, h2, -⟩ := runM_ok (many := many) hg hs hl
  refine .tup (by simp) fun w hw => ?_
  rcases List.mem_cons.mp hw with e | e
  · rw [e]; exact dle_stand 0 hg h1
  · rw [List.mem_singleton.mp e]; exact dle_said 0 (by dsimp only; omega)
theorem tou_len {g : Prog} {s : Stand} {l : Lets} (xs : List Int) : ∀ x ∈ (runF g s l xs).2.2.2, x.1.l.length ≤ 2 ∧ x.2.l.length ≤ 1 := by
  refine rev_indU (P := fun xs => ∀ x ∈ (runF g s l xs).2.2.2, x.1.l.length ≤ 2 ∧ x.2.l.length ≤ 1) ?_ (fun xs n ih => ?_) xs
  · rw [run_nil]; intro x hx; simp at hx
  · rw [run_snoc]
    unfold runStep
    intro x hx
    rcases List.mem_append.mp hx with q | q
    · exact ih x q
    · rw [List.mem_singleton.mp q]; exact tick_rl
theorem dat_touch {g : Prog} {s : Stand} {l : Lets} {many : Int} (hm : many ≤ 100000) : DLe 3 (ToD.dat (runM g s l many).c) := by
  have h := run_len (g := g) (s := s) (l := l) (rng 0 many)
  rw [len_rng] at h
  have ht := tou_len (g := g) (s := s) (l := l) (rng 0 many)
  unfold runM
  refine .lst (by rw [List.length_map]; dsimp only; omega) fun y hy => ?_
  obtain ⟨z, hz, e⟩ := List.mem_map.mp hy
  rw [← e]
  have := ht z hz
  refine .tup (by simp) fun w hw => ?_
  rcases List.mem_cons.mp hw with e | e
  · rw [e]; exact dle_tp 0 (by omega)
  · rw [List.mem_singleton.mp e]; exact dle_tp 0 (by omega)
theorem dat_trace {g : Prog} {s : Stand} {l : Lets} {many : Int} (hm : many ≤ 100000) : DLe 3 (ToD.dat ((runM g s l many).c.map (fun x => x.2))) := by
  have h := run_len (g := g) (s := s) (l := l) (rng 0 many)
  rw [len_rng] at h
  have ht := tou_len (g := g) (s := s) (l := l) (rng 0 many)
  unfold runM
  refine .lst (by rw [List.length_map, List.length_map]; dsimp only; omega) fun y hy => ?_
  obtain ⟨z, hz, e⟩ := List.mem_map.mp hy
  obtain ⟨z', hz', e'⟩ := List.mem_map.mp hz
  rw [← e, ← e']
  have := ht z' hz'
  exact dle_tp 1 (by omega)
end GL

namespace GL
open PySem PySem.Spec PyProof.Rows L2
/-! ### rounds -/
abbrev RS := List (Int × Tp Int) × Dct Int × Int × List Int
abbrev RR := T3 (List (Int × Tp Int)) Int (Tp Int)
def rdC (most sl : Int) (s : RS) : Bool := !decide (s.2.2.2 = []) && (decide ((s.1.length : Int) < most) && (decide (s.1 = []) || decide (sl < (s.2.2.2.length : Int))))
def rdCop (b tick : Int) (c : Dct Int) (ps : Int × Int) : Dct Int := c.put ps.2 (tick + ps.1 / b)
def rdDue (n : Int) (trace : List (Tp Int)) (copied : Dct Int) (tick : Int) : List Int := ((rng 0 n).filter fun x => ((writtenIn trace 0 tick).get? x).isSome && decide (dix copied x ≤ dix (writtenIn trace 0 tick) x)).map fun x => x
def rdN (n : Int) (trace : List (Tp Int)) (b : Int) (s : RS) : RS :=
  (s.1 ++ [(s.2.2.1, ⟨s.2.2.2⟩)], (enumI s.2.2.2).foldl (rdCop b s.2.2.1) s.2.1, s.2.2.1 + ((s.2.2.2.length : Int) + b - 1) / b, rdDue n trace ((enumI s.2.2.2).foldl (rdCop b s.2.2.1) s.2.1) (s.2.2.1 + ((s.2.2.2.length : Int) + b - 1) / b))
def rdB (n : Int) (trace : List (Tp Int)) (b : Int) (s : RS) : Fl RS RR := .nx (rdN n trace b s)
def rdK (s : RS) : RR := ⟨s.1, s.2.2.1, ⟨s.2.2.2⟩⟩
@[irreducible] def roundsM (n : Int) (trace : List (Tp Int)) (b sl most : Int) : RR := whl (rdC most sl) (rdB n trace b) rdK most.toNat ([], Dct.emp, 0, rng 0 n)
structure RdI (n b most : Int) (s : RS) : Prop where
  due : ∀ x ∈ s.2.2.2, 0 ≤ x ∧ x < n
  len : (s.2.2.2.length : Int) ≤ n
  cov : ∀ x, 0 ≤ x → x < n → (s.2.1.get? x).isSome = true ∨ x ∈ s.2.2.2
  cok : s.2.1.Ok 1000
  t0 : 0 ≤ s.2.2.1
  t1 : s.2.2.1 ≤ 2000 * (s.1.length : Int)
structure RdP (n : Int) (trace : List (Tp Int)) (b most : Int) : Prop where
  n0 : 0 ≤ n
  n1 : n ≤ 1000
  tr : TrOk trace
  b0 : 1 ≤ b
  b1 : b ≤ 1000
  m0 : 0 ≤ most
  m1 : most ≤ 1000
theorem rdC_lt {most sl : Int} {s : RS} (h : rdC most sl s = true) : (s.1.length : Int) < most := by
  unfold rdC at h
  simp only [Bool.and_eq_true, decide_eq_true_eq] at h
  exact h.2.1
theorem cop_ok {b tick : Int} {l : List (Int × Int)} (hl : ∀ p ∈ l, 0 ≤ p.2 ∧ p.2 < 1000) : ∀ {d : Dct Int}, d.Ok 1000 → (l.foldl (rdCop b tick) d).Ok 1000 := by
  induction l with
  | nil => intro d h; exact h
  | cons p l ih =>
    intro d h
    exact ih (fun q hq => hl q (List.mem_cons_of_mem _ hq)) (h.put _ (hl p List.mem_cons_self))
theorem cop_keep {b tick x : Int} {l : List (Int × Int)} : ∀ {d : Dct Int}, (d.get? x).isSome = true → ((l.foldl (rdCop b tick) d).get? x).isSome = true := by
  induction l with
  | nil => intro d h; exact h
  | cons p l ih =>
    intro d h
    refine ih ?_
    unfold rdCop
    rw [Dct.get?_put]
    split
    · rfl
    · exact h
theorem cop_has {b tick x : Int} {l : List (Int × Int)} : ∀ {d : Dct Int}, x ∈ l.map (·.2) → ((l.foldl (rdCop b tick) d).get? x).isSome = true := by
  induction l with
  | nil => intro d h; simp at h
  | cons p l ih =>
    intro d h
    rw [List.map_cons, List.mem_cons] at h
    rcases h with h | h
    · refine cop_keep (d := rdCop b tick d p) ?_
      unfold rdCop
      rw [Dct.get?_put, if_pos h]
      rfl
    · exact ih h
theorem enumI_snd {α : Type} (xs : List α) : (enumI xs).map (·.2) = xs := by
  unfold enumI
  rw [List.map_map]
  show List.map (fun p => p.1) xs.zipIdx = xs
  exact List.zipIdx_map_fst 0 xs
theorem enumI_fst {α : Type} {xs : List α} {p : Int × α} (h : p ∈ enumI xs) : p.2 ∈ xs := List.mem_of_getElem? (mem_enumI.mp h).2
theorem RdI.copOk {n b most : Int} {s : RS} (I : RdI n b most s) (hn : n ≤ 1000) {pre : List (Int × Int)} (h : ∀ p ∈ pre, p ∈ enumI s.2.2.2) : (pre.foldl (rdCop b s.2.2.1) s.2.1).Ok 1000 :=
  cop_ok (fun p hp => by have := I.due p.2 (enumI_fst (h p hp)); omega) I.cok
theorem RdI.covered {n b most : Int} {s : RS} (I : RdI n b most s) {x : Int} (h0 : 0 ≤ x) (h1 : x < n) : (((enumI s.2.2.2).foldl (rdCop b s.2.2.1) s.2.1).get? x).isSome = true := by
  rcases I.cov x h0 h1 with h | h
  · exact cop_keep h
  · exact cop_has (by rw [enumI_snd]; exact h)
theorem due_mem {n tick : Int} {trace : List (Tp Int)} {c : Dct Int} {x : Int} (h : x ∈ rdDue n trace c tick) : 0 ≤ x ∧ x < n := by
  unfold rdDue at h
  rw [List.map_id'] at h
  exact mem_rng.mp (List.mem_filter.mp h).1
theorem div_bound {l b : Int} (hb : 1 ≤ b) (hl : 0 ≤ l) : 0 ≤ (l + b - 1) / b ∧ (l + b - 1) / b ≤ l := by
  refine ⟨Int.ediv_nonneg (by omega) (by omega), ?_⟩
  have h : (l + b - 1) / b < l + 1 := by
    apply Int.ediv_lt_of_lt_mul (by omega)
    have : l * b ≥ l := by
      have := Int.mul_le_mul_of_nonneg_left hb hl
      omega
    rw [Int.add_mul]
    omega
  omega
theorem RdI.next {n b most : Int} {trace : List (Tp Int)} {s : RS} (P : RdP n trace b most) (I : RdI n b most s) : RdI n b most (rdN n trace b s) := by
  have hb := div_bound (l := (s.2.2.2.length : Int)) P.b0 (by omega)
  refine ⟨fun x hx => due_mem hx, ?_, fun x h0 h1 => .inl (I.covered h0 h1), I.copOk P.n1 fun _ h => h, ?_, ?_⟩
  · show ((rdDue n trace _ _).length : Int) ≤ n
    unfold rdDue
    rw [List.length_map]
    have h1 := List.length_filter_le (fun x => ((writtenIn trace 0 (s.2.2.1 + ((s.2.2.2.length : Int) + b - 1) / b)).get? x).isSome && decide (dix ((enumI s.2.2.2).foldl (rdCop b s.2.2.1) s.2.1) x ≤ dix (writtenIn trace 0 (s.2.2.1 + ((s.2.2.2.length : Int) + b - 1) / b)) x)) (rng 0 n)
    rw [len_rng] at h1
    have := P.n0
    omega
  · show 0 ≤ s.2.2.1 + ((s.2.2.2.length : Int) + b - 1) / b
    have := I.t0
    omega
  · show s.2.2.1 + ((s.2.2.2.length : Int) + b - 1) / b ≤ 2000 * ((s.1 ++ [(s.2.2.1, (⟨s.2.2.2⟩ : Tp Int))]).length : Int)
    rw [List.length_append]
    have h1 := I.t1
    have h2 := I.len
    have h3 := P.n1
    simp only [List.length_singleton]
    omega
theorem RdI.start {n b most : Int} (hn : 0 ≤ n) : RdI n b most ([], Dct.emp, 0, rng 0 n) :=
  ⟨fun x hx => mem_rng.mp hx, by show ((rng 0 n).length : Int) ≤ n; rw [len_rng]; omega, fun x h0 h1 => .inr (mem_rng.mpr ⟨h0, h1⟩), Dct.Ok.emp, Int.le_refl _, by show (0 : Int) ≤ 2000 * (0 : Int); omega⟩
end GL

namespace GL
open PySem PySem.Spec PyProof.Rows L2
/-! ### last writings, what lacks, what bars -/
/-- the last writing ahead of a stop, -1 where there is none -/
def lastW (trace : List (Tp Int)) (stop s : Int) : Int := (lastN trace stop.toNat s).getD (-1)
@[irreducible] def lastsM (n : Int) (trace : List (Tp Int)) (stop : Int) : List Int := (rng 0 n).map fun x => lastW trace stop x
theorem lasts_ret {n stop : Int} {trace : List (Tp Int)} : (rng 0 n).map (fun x => ((writtenIn trace 0 stop).get? x).getD (-1)) = lastsM n trace stop := by
  unfold lastsM lastW
  apply List.map_congr_left
  intro x _
  rw [writtenIn_get]
@[irreducible] def lackM (lasts : List Int) (b stop t : Int) : Int := ((lasts.filter fun x => decide (t ≤ x)).length : Int) - b * (stop - t - 1)
theorem lack_ret {lasts : List Int} {b stop t : Int} : (((lasts.filter fun x => decide (t ≤ x)).map fun x => x).length : Int) - b * (stop - t - 1) = lackM lasts b stop t := by
  unfold lackM
  rw [List.length_map]
@[irreducible] def barsM (n : Int) (trace : List (Tp Int)) (b s stop t : Int) : Bool := if -1 ≤ t ∧ t < stop then decide (s < lackM (lastsM n trace stop) b stop t) else false
theorem len_lasts (n : Int) (trace : List (Tp Int)) (stop : Int) : (lastsM n trace stop).length = n.toNat := by
  unfold lastsM
  rw [List.length_map, len_rng, Int.sub_zero]
/-! the law's own way to the last writing -/
def lawLastS (trail : List (Tp Int)) (sheet : Int) (found beat : Int) : Int := if decide (sheet ∈ (ix trail beat).l) = true then beat else found
theorem lawLast_eq (trail : List (Tp Int)) (stop s : Int) : (rng 0 (min stop trail.length)).foldl (lawLastS trail s) (-1) = lastW trail stop s := by
  have h : ∀ n : Nat, n ≤ trail.length → (rng 0 (n : Int)).foldl (lawLastS trail s) (-1) = (lastN trail n s).getD (-1) := by
    intro n
    induction n with
    | zero => intro _; rw [rng_nil (by omega)]; rfl
    | succ n ih =>
      intro hn
      rw [show ((n + 1 : Nat) : Int) = (n : Int) + 1 by omega, rng_succ (by omega), List.foldl_append, ih (by omega), List.foldl_cons, List.foldl_nil, lastN]
      unfold lawLastS
      have : ix trail (n : Int) = trail.getD n ⟨[]⟩ := by unfold ix; rfl
      rw [this]
      by_cases q : s ∈ (trail.getD n ⟨[]⟩).l
      · rw [if_pos (decide_eq_true q), if_pos q]
        rfl
      · rw [if_neg (by rw [decide_eq_false q]; decide), if_neg q]
  unfold lastW
  by_cases h1 : stop < 0
  · rw [rng_nil (by omega), show stop.toNat = 0 by omega]
    rfl
  · by_cases h2 : stop ≤ trail.length
    · rw [Int.min_eq_left h2]
      have := h stop.toNat (by omega)
      rw [show ((stop.toNat : Nat) : Int) = stop by omega] at this
      exact this
    · rw [Int.min_eq_right (by omega), h trail.length (Nat.le_refl _), lastN_more trail s stop.toNat (by omega)]
/-! far right -/
theorem farW {x stop : Int} (h0 : 0 ≤ x) (h1 : x < 12) (h2 : 2000 ≤ stop) : lastW (List.replicate 1988 (⟨[]⟩ : Tp Int) ++ List.replicate 12 (⟨rng 0 12⟩ : Tp Int)) stop x = 1999 := by
  unfold lastW
  have hl : (List.replicate 1988 (⟨[]⟩ : Tp Int) ++ List.replicate 12 (⟨rng 0 12⟩ : Tp Int)).length = 1999 + 1 := by rw [List.length_append, List.length_replicate, List.length_replicate]
  rw [lastN_more _ _ _ (by rw [hl]; omega), hl, lastN, if_pos]
  · rfl
  · rw [List.getD_eq_getElem?_getD, List.getElem?_append_right (by rw [List.length_replicate]; omega), List.length_replicate, List.getElem?_replicate, if_pos (by omega)]
    exact mem_rng.mpr ⟨h0, h1⟩
theorem far_bars {stop t : Int} (h2 : 2000 ≤ stop) (h0 : 0 ≤ t) (h1 : t ≤ 1999) : barsM 12 (List.replicate 1988 (⟨[]⟩ : Tp Int) ++ List.replicate 12 (⟨rng 0 12⟩ : Tp Int)) 1 0 stop t = decide (0 < 12 - (stop - t - 1)) := by
  unfold barsM lackM
  rw [if_pos (by omega)]
  have e : (lastsM 12 (List.replicate 1988 (⟨[]⟩ : Tp Int) ++ List.replicate 12 (⟨rng 0 12⟩ : Tp Int)) stop).filter (fun x => decide (t ≤ x)) = lastsM 12 (List.replicate 1988 (⟨[]⟩ : Tp Int) ++ List.replicate 12 (⟨rng 0 12⟩ : Tp Int)) stop := by
    apply List.filter_eq_self.mpr
    intro y hy
    unfold lastsM at hy
    obtain ⟨x, hx, rfl⟩ := List.mem_map.mp hy
    rw [mem_rng] at hx
    rw [farW hx.1 hx.2 h2]
    exact decide_eq_true h1
  rw [e, len_lasts, Int.one_mul]
  rfl
end GL

namespace GL
open PySem PySem.Spec PyProof.Rows L2
/-! ### the fewest that must be left -/
def lsStep (ls : List Int) (b stop : Int) (s : Int × Option Int) (t : Int) : Int × Option Int :=
  if decide (t < stop) && decide (s.1 < lackM ls b stop t) then (lackM ls b stop t, some t) else s
def lsFold (ls : List Int) (b stop : Int) : Int × Option Int := (usrt ls).foldl (lsStep ls b stop) (0, none)
@[irreducible] def leastM (n : Int) (trace : List (Tp Int)) (b stop : Int) : Int × Option Int := lsFold (lastsM n trace stop) b stop
@[irreducible] def lawLeastM (n : Int) (trace : List (Tp Int)) (b stop : Int) : Int := maxL ([0] ++ (rng (-1) stop).map fun t => lackM (lastsM n trace stop) b stop t)

structure LsI (ls : List Int) (b stop : Int) (xs : List Int) (s : Int × Option Int) : Prop where
  nn : 0 ≤ s.1
  all : ∀ t ∈ xs, t < stop → lackM ls b stop t ≤ s.1
  nil : s.1 = 0 ↔ s.2 = none
  at_ : ∀ t, s.2 = some t → t ∈ xs ∧ t < stop ∧ lackM ls b stop t = s.1
theorem ls_inv (ls : List Int) (b stop : Int) (xs : List Int) : LsI ls b stop xs (xs.foldl (lsStep ls b stop) (0, none)) := by
  have h : ∀ (ys zs : List Int) (s : Int × Option Int), LsI ls b stop zs s → LsI ls b stop (zs ++ ys) (ys.foldl (lsStep ls b stop) s) := by
    intro ys
    induction ys with
    | nil => intro zs s h; simpa using h
    | cons y ys ih =>
      intro zs s h
      have e : zs ++ y :: ys = (zs ++ [y]) ++ ys := by simp
      rw [e]
      refine ih (zs ++ [y]) _ ?_
      unfold lsStep
      split
      · rename_i hc
        simp only [Bool.and_eq_true, decide_eq_true_eq] at hc
        have := h.nn
        refine ⟨by dsimp only; omega, fun t ht hs => ?_, ⟨fun q => by dsimp only at q; omega, fun q => by cases q⟩, fun t ht => ?_⟩
        · rcases List.mem_append.mp ht with q | q
          · have := h.all t q hs; dsimp only; omega
          · rw [List.mem_singleton.mp q]; exact Int.le_refl _
        · dsimp only at ht
          cases ht
          exact ⟨by simp, hc.1, rfl⟩
      · rename_i hc
        simp only [Bool.and_eq_true, decide_eq_true_eq, not_and] at hc
        refine ⟨h.nn, fun t ht hs => ?_, h.nil, fun t ht => ?_⟩
        · rcases List.mem_append.mp ht with q | q
          · exact h.all t q hs
          · have ey := List.mem_singleton.mp q
            rw [ey] at hs ⊢
            have := hc hs
            omega
        · have := h.at_ t ht
          exact ⟨List.mem_append_left _ this.1, this.2⟩
  have := h xs [] (0, none) ⟨Int.le_refl _, fun t ht => absurd ht (by simp), ⟨fun _ => rfl, fun _ => rfl⟩, fun t ht => by cases ht⟩
  simpa using this

theorem lack_le {ls : List Int} {b stop t : Int} (hb : 0 ≤ b) (h0 : t < stop) (hl : ∀ x ∈ ls, x < stop) : lackM ls b stop t ≤ 0 ∨ ∃ x ∈ ls, x < stop ∧ t ≤ x ∧ lackM ls b stop t ≤ lackM ls b stop x := by
  by_cases hx : ∃ x ∈ ls, t ≤ x
  · -- the least of those not below t
    obtain ⟨x0, hx0, hx1⟩ := hx
    have : ∃ x ∈ ls, t ≤ x ∧ ∀ y ∈ ls, t ≤ y → x ≤ y := by
      have key : ∀ (ys : List Int), (∃ x ∈ ys, t ≤ x) → ∃ x ∈ ys, t ≤ x ∧ ∀ y ∈ ys, t ≤ y → x ≤ y := by
        intro ys
        induction ys with
        | nil => rintro ⟨x, hx, _⟩; simp at hx
        | cons y ys ih =>
          intro hex
          by_cases hr : ∃ x ∈ ys, t ≤ x
          · obtain ⟨x, h1, h2, h3⟩ := ih hr
            by_cases hy : t ≤ y ∧ y ≤ x
            · refine ⟨y, List.mem_cons_self, hy.1, fun z hz hz2 => ?_⟩
              rcases List.mem_cons.mp hz with e | e
              · omega
              · have := h3 z e hz2; omega
            · refine ⟨x, List.mem_cons_of_mem _ h1, h2, fun z hz hz2 => ?_⟩
              rcases List.mem_cons.mp hz with e | e
              · omega
              · exact h3 z e hz2
          · obtain ⟨x, hx, hx2⟩ := hex
            rcases List.mem_cons.mp hx with e | e
            · subst e
              refine ⟨x, List.mem_cons_self, hx2, fun z hz hz2 => ?_⟩
              rcases List.mem_cons.mp hz with e | e
              · omega
              · exact absurd ⟨z, e, hz2⟩ hr
            · exact absurd ⟨x, e, hx2⟩ hr
      exact key ls ⟨x0, hx0, hx1⟩
    obtain ⟨x, h1, h2, h3⟩ := this
    refine .inr ⟨x, h1, hl x h1, h2, ?_⟩
    unfold lackM
    have e : ls.filter (fun y => decide (t ≤ y)) = ls.filter (fun y => decide (x ≤ y)) := by
      apply List.filter_congr
      intro y hy
      by_cases q : t ≤ y
      · rw [decide_eq_true q, decide_eq_true (h3 y hy q)]
      · rw [decide_eq_false q, decide_eq_false (by omega)]
    rw [e]
    have : b * (stop - x - 1) ≤ b * (stop - t - 1) := Int.mul_le_mul_of_nonneg_left (by omega) hb
    omega
  · refine .inl ?_
    unfold lackM
    have e : ls.filter (fun y => decide (t ≤ y)) = [] := by
      apply List.filter_eq_nil_iff.mpr
      intro y hy
      rw [decide_eq_false (fun q => hx ⟨y, hy, q⟩)]
      decide
    rw [e]
    have : 0 ≤ b * (stop - t - 1) := Int.mul_nonneg hb (by omega)
    simp only [List.length_nil]
    omega
theorem lastN_lt (trace : List (Tp Int)) (s : Int) : ∀ n : Nat, -1 ≤ (lastN trace n s).getD (-1) ∧ (lastN trace n s).getD (-1) < n ∧ (lastN trace n s).getD (-1) < trace.length := by
  intro n
  induction n with
  | zero => simp [lastN]; omega
  | succ n ih =>
    rw [lastN]
    by_cases q : s ∈ (trace.getD n ⟨[]⟩).l
    · rw [if_pos q]
      have : n < trace.length := by
        by_cases h : n < trace.length
        · exact h
        · rw [List.getD_eq_getElem?_getD, List.getElem?_eq_none (by omega)] at q
          simp at q
      simp only [Option.getD_some]
      omega
    · rw [if_neg q]
      omega
theorem lasts_bd {n stop x : Int} {trace : List (Tp Int)} (h0 : 0 ≤ stop) (h : x ∈ lastsM n trace stop) : -1 ≤ x ∧ x < stop ∧ x < trace.length := by
  unfold lastsM at h
  obtain ⟨s, _, rfl⟩ := List.mem_map.mp h
  unfold lastW
  have := lastN_lt trace s stop.toNat
  omega
theorem lasts_bd' {n stop x : Int} {trace : List (Tp Int)} (h : x ∈ lastsM n trace stop) : -1 ≤ x := by
  unfold lastsM at h
  obtain ⟨s, _, rfl⟩ := List.mem_map.mp h
  unfold lastW
  have := lastN_lt trace s stop.toNat
  omega
/-- what is told: the greatest lack of all numbers, and one that has it -/
theorem least_spec {n b stop : Int} {trace : List (Tp Int)} (hb : 0 ≤ b) (h0 : 0 ≤ stop) :
    0 ≤ (leastM n trace b stop).1 ∧ (∀ t, t < stop → lackM (lastsM n trace stop) b stop t ≤ (leastM n trace b stop).1) ∧ ((leastM n trace b stop).1 = 0 ↔ (leastM n trace b stop).2 = none) ∧
      ∀ t, (leastM n trace b stop).2 = some t → -1 ≤ t ∧ t < stop ∧ lackM (lastsM n trace stop) b stop t = (leastM n trace b stop).1 := by
  unfold leastM lsFold
  have I := ls_inv (lastsM n trace stop) b stop (usrt (lastsM n trace stop))
  refine ⟨I.nn, fun t ht => ?_, I.nil, fun t ht => ?_⟩
  · rcases lack_le (t := t) (ls := lastsM n trace stop) hb ht (fun x hx => (lasts_bd h0 hx).2.1) with q | ⟨x, hx, hs, ht, q⟩
    · exact Int.le_trans q I.nn
    · exact Int.le_trans q (I.all x (mem_usrt.mpr hx) hs)
  · have := I.at_ t ht
    exact ⟨(lasts_bd' (mem_usrt.mp this.1)), this.2⟩
theorem lawLeast_eq {n b stop : Int} {trace : List (Tp Int)} (hb : 0 ≤ b) (h0 : 0 ≤ stop) : lawLeastM n trace b stop = (leastM n trace b stop).1 := by
  obtain ⟨h1, h2, h3, h4⟩ := least_spec (n := n) (trace := trace) hb h0
  unfold lawLeastM
  refine (maxL_eq ?_ ?_).symm
  · cases e : (leastM n trace b stop).2 with
    | none => rw [h3.mpr e]; simp
    | some t =>
      have := h4 t e
      refine List.mem_append_right _ (List.mem_map.mpr ⟨t, mem_rng.mpr ⟨this.1, this.2.1⟩, this.2.2⟩)
  · intro y hy
    rcases List.mem_append.mp hy with q | q
    · rw [List.mem_singleton.mp q]; exact h1
    · obtain ⟨t, ht, rfl⟩ := List.mem_map.mp q
      exact h2 t (mem_rng.mp ht).2
theorem lastW_len (trace : List (Tp Int)) (stop s : Int) (h : (trace.length : Int) ≤ stop) : lastW trace stop s = lastW trace trace.length s := by
  unfold lastW
  rw [lastN_more trace s stop.toNat (by omega), Int.toNat_natCast]
theorem lasts_len {n stop : Int} {trace : List (Tp Int)} (h : (trace.length : Int) ≤ stop) : lastsM n trace stop = lastsM n trace trace.length := by
  unfold lastsM
  apply List.map_congr_left
  intro x _
  exact lastW_len trace stop x h
theorem least_more {n b : Int} {trace : List (Tp Int)} (hb : 0 ≤ b) : (leastM n trace b (trace.length + 1)).1 ≤ (leastM n trace b trace.length).1 := by
  obtain ⟨h1, h2, h3, h4⟩ := least_spec (n := n) (trace := trace) (stop := trace.length + 1) hb (by omega)
  obtain ⟨g1, g2, g3, g4⟩ := least_spec (n := n) (trace := trace) (stop := trace.length) hb (by omega)
  cases e : (leastM n trace b (trace.length + 1)).2 with
  | none => rw [h3.mpr e]; exact g1
  | some t =>
    obtain ⟨a1, a2, a3⟩ := h4 t e
    have el := lasts_len (n := n) (trace := trace) (stop := trace.length + 1) (by omega)
    rw [el] at a3
    rw [← a3]
    by_cases q : t < trace.length
    · refine Int.le_trans ?_ (g2 t q)
      unfold lackM
      have : b * ((trace.length : Int) - t - 1) ≤ b * ((trace.length : Int) + 1 - t - 1) := Int.mul_le_mul_of_nonneg_left (by omega) hb
      omega
    · have : lackM (lastsM n trace trace.length) b (trace.length + 1) t ≤ 0 := by
        unfold lackM
        have e : (lastsM n trace trace.length).filter (fun y => decide (t ≤ y)) = [] := by
          apply List.filter_eq_nil_iff.mpr
          intro y hy
          have := lasts_bd (by omega) hy
          rw [decide_eq_false (by omega)]
          decide
        rw [e]
        have : 0 ≤ b * ((trace.length : Int) + 1 - t - 1) := Int.mul_nonneg hb (by omega)
        simp only [List.length_nil]
        omega
      omega
/-! far right -/
theorem far_lasts {stop : Int} (h2 : 2000 ≤ stop) : lastsM 12 (List.replicate 1988 (⟨[]⟩ : Tp Int) ++ List.replicate 12 (⟨rng 0 12⟩ : Tp Int)) stop = List.replicate 12 1999 := by
  unfold lastsM
  apply List.eq_replicate_iff.mpr
  refine ⟨by rw [List.length_map, len_rng]; rfl, fun y hy => ?_⟩
  obtain ⟨x, hx, rfl⟩ := List.mem_map.mp hy
  rw [mem_rng] at hx
  exact farW hx.1 hx.2 h2
theorem far_least {stop : Int} (h2 : 2000 ≤ stop) : leastM 12 (List.replicate 1988 (⟨[]⟩ : Tp Int) ++ List.replicate 12 (⟨rng 0 12⟩ : Tp Int)) 1 stop = if 0 < 12 - (stop - 1999 - 1) then (12 - (stop - 1999 - 1), some 1999) else (0, none) := by
  unfold leastM lsFold
  rw [far_lasts h2]
  have e : ([1999] : List Int) = usrt (List.replicate 12 1999) := usrt_eq (List.pairwise_singleton _ _) fun k => by
    rw [List.mem_singleton, List.mem_replicate]
    exact ⟨fun h => ⟨by decide, h⟩, fun h => h.2⟩
  rw [← e, List.foldl_cons, List.foldl_nil]
  have el : lackM (List.replicate 12 1999) 1 stop 1999 = 12 - (stop - 1999 - 1) := by
    unfold lackM
    rw [List.filter_replicate_of_pos (by decide), List.length_replicate, Int.one_mul]
    rfl
  unfold lsStep
  rw [el, decide_eq_true (show (1999 : Int) < stop by omega), Bool.true_and]
  simp only [decide_eq_true_eq]
end GL

namespace GL
open PySem PySem.Spec PyProof.Rows L2
/-! ### what a plan leaves -/
def inT (stop : Int) (t : Int) : Bool := decide (0 ≤ t) && decide (t < stop)
def copStep (stop : Int) (d : Dct Int) (p : Int × Int) : Dct Int := if inT stop p.1 = true then d.put p.2 (max p.1 ((d.get? p.2).getD p.1)) else d
@[irreducible] def copM (copies : List (Int × Int)) (stop : Int) : Dct Int := copies.foldl (copStep stop) Dct.emp
@[irreducible] def leftM (n : Int) (trace : List (Tp Int)) (plan : List (Int × Int) × Int) : List Int := (rng 0 n).filter fun x => !((copM plan.1 plan.2).get? x).isSome || decide (dix (copM plan.1 plan.2) x ≤ ((writtenIn trace 0 plan.2).get? x).getD (-1))
/-- the ticks at which a sheet is copied ahead of the stop -/
def tks (copies : List (Int × Int)) (stop x : Int) : List Int := (copies.filter fun p => decide (p.2 = x) && inT stop p.1).map (·.1)
theorem lastG (trace : List (Tp Int)) (stop x : Int) : ((writtenIn trace 0 stop).get? x).getD (-1) = lastW trace stop x := by
  unfold lastW
  rw [writtenIn_get]
theorem maxL_snoc {l : List Int} (h : l ≠ []) (x : Int) : maxL (l ++ [x]) = max (maxL l) x := by
  cases l with
  | nil => exact absurd rfl h
  | cons a l =>
    show (l ++ [x]).foldl max a = max (l.foldl max a) x
    rw [List.foldl_append]
    rfl
theorem tks_snoc (copies : List (Int × Int)) (stop x : Int) (p : Int × Int) : tks (copies ++ [p]) stop x = if (decide (p.2 = x) && inT stop p.1) = true then tks copies stop x ++ [p.1] else tks copies stop x := by
  unfold tks
  rw [List.filter_append, List.map_append, List.filter_cons]
  split
  · rfl
  · simp
theorem rev_ind {δ : Type} {P : List δ → Prop} (h0 : P []) (h1 : ∀ l x, P l → P (l ++ [x])) (l : List δ) : P l := by
  have : ∀ l : List δ, P l.reverse := by
    intro l
    induction l with
    | nil => exact h0
    | cons x l ih => rw [List.reverse_cons]; exact h1 _ _ ih
  have q := this l.reverse
  rw [List.reverse_reverse] at q
  exact q
theorem cop_get (stop x : Int) (copies : List (Int × Int)) : (copM copies stop).get? x = if tks copies stop x = [] then none else some (maxL (tks copies stop x)) := by
  unfold copM
  refine rev_ind (P := fun copies => (copies.foldl (copStep stop) Dct.emp).get? x = if tks copies stop x = [] then none else some (maxL (tks copies stop x))) rfl (fun l p ih => ?_) copies
  rw [List.foldl_append, List.foldl_cons, List.foldl_nil, tks_snoc]
  generalize l.foldl (copStep stop) Dct.emp = d at ih ⊢
  unfold copStep
  by_cases h1 : inT stop p.1 = true
  · rw [if_pos h1, Dct.get?_put, h1, Bool.and_true]
    by_cases h2 : p.2 = x
    · rw [if_pos h2.symm, decide_eq_true h2, if_pos rfl, h2, ih]
      by_cases h3 : tks l stop x = []
      · rw [if_pos h3, h3, if_neg (by simp)]
        simp [maxL]
      · rw [if_neg h3, if_neg (by simp), maxL_snoc h3, Option.getD_some, Int.max_comm]
    · rw [if_neg (fun e => h2 e.symm), decide_eq_false h2, if_neg Bool.false_ne_true]
      exact ih
  · rw [if_neg h1, show (decide (p.2 = x) && inT stop p.1) = false by rw [Bool.eq_false_iff.mpr h1, Bool.and_false], if_neg Bool.false_ne_true]
    exact ih
def lfT (trace : List (Tp Int)) (copies : List (Int × Int)) (stop x : Int) : Bool := decide (tks copies stop x = []) || decide (maxL (tks copies stop x) ≤ lastW trace stop x)
theorem left_eq (n : Int) (trace : List (Tp Int)) (plan : List (Int × Int) × Int) : leftM n trace plan = (rng 0 n).filter (lfT trace plan.1 plan.2) := by
  unfold leftM
  apply List.filter_congr
  intro x _
  unfold lfT
  rw [lastG, cop_get]
  by_cases h : tks plan.1 plan.2 x = []
  · rw [if_pos h, decide_eq_true h]; rfl
  · rw [if_neg h, decide_eq_false h]
    have e : dix (copM plan.1 plan.2) x = maxL (tks plan.1 plan.2 x) := dix_of (by rw [cop_get, if_neg h])
    rw [e]
    rfl
theorem left_len (n : Int) (trace : List (Tp Int)) (plan : List (Int × Int) × Int) : (leftM n trace plan).length ≤ n.toNat := by
  rw [left_eq]
  refine Nat.le_trans (List.length_filter_le _ _) ?_
  rw [len_rng]
  omega
theorem left_mem {n : Int} {trace : List (Tp Int)} {plan : List (Int × Int) × Int} {x : Int} : x ∈ leftM n trace plan ↔ (0 ≤ x ∧ x < n) ∧ lfT trace plan.1 plan.2 x = true := by
  rw [left_eq, List.mem_filter, mem_rng]
/-- the law's own way -/
def lfStep (trace : List (Tp Int)) (plan : List (Int × Int) × Int) (f : List Int) (x : Int) : List Int := if lfT trace plan.1 plan.2 x = true then f ++ [x] else f
theorem foldl_filter {δ : Type} (p : δ → Bool) : ∀ (l acc : List δ), l.foldl (fun f x => if p x = true then f ++ [x] else f) acc = acc ++ l.filter p
  | [], acc => by simp
  | x :: l, acc => by
    rw [List.foldl_cons, foldl_filter p l, List.filter_cons]
    split <;> simp
theorem lf_fold (n : Int) (trace : List (Tp Int)) (plan : List (Int × Int) × Int) : (rng 0 n).foldl (lfStep trace plan) [] = leftM n trace plan := by
  rw [left_eq]
  have := foldl_filter (lfT trace plan.1 plan.2) (rng 0 n) []
  rw [List.nil_append] at this
  exact this
theorem lf_len (trace : List (Tp Int)) (plan : List (Int × Int) × Int) : ∀ (l acc : List Int), (l.foldl (lfStep trace plan) acc).length ≤ acc.length + l.length
  | [], acc => Nat.le_refl _
  | x :: l, acc => by
    rw [List.foldl_cons]
    refine Nat.le_trans (lf_len trace plan l _) ?_
    unfold lfStep
    split
    · simp
      try omega
    · simp
      try omega
theorem Dct.put_len2 {α : Type} (d : Dct α) (k : Int) (x : α) : (d.put k x).l.length ≤ d.l.length + 1 := by
  unfold Dct.put
  dsimp only
  split
  · rw [List.length_map]; omega
  · rw [List.length_append]; simp
theorem cop_len (stop : Int) : ∀ (l : List (Int × Int)) (d : Dct Int), (l.foldl (copStep stop) d).l.length ≤ d.l.length + l.length
  | [], d => Nat.le_refl _
  | p :: l, d => by
    rw [List.foldl_cons]
    refine Nat.le_trans (cop_len stop l _) ?_
    unfold copStep
    rw [List.length_cons]
    split
    · have := Dct.put_len2 d p.2 (max p.1 ((d.get? p.2).getD p.1))
      omega
    · omega
end GL

namespace GL
open PySem PySem.Spec PyProof.Rows L2
/-! ### plans for a stop -/
/-- the sheets that are to be copied, those last written first -/
@[irreducible] def dueM (lasts : List Int) (m : Int) : List Int := cutL ((srt2 ((enumI lasts).map fun x => (x.2, x.1))).map fun x => x.2) none (some m)
/-- where they go: the k-th at stop - 1 - k / b -/
@[irreducible] def plc (b stop : Int) (xs : List Int) : List (Int × Int) := (enumI xs).map fun p => (stop - 1 - p.1 / b, p.2)
abbrev PlanT := Str × Sum (List (Int × Int)) (Option Int)
@[irreducible] def planM (n : Int) (trace : List (Tp Int)) (b s stop : Int) : PlanT :=
  if decide (s < (leastM n trace b stop).1) = true then (Str.ofString "barred", .inr (leastM n trace b stop).2)
  else (Str.ofString "plan", .inl (srt2 (plc b stop (dueM (lastsM n trace stop) (max 0 (n - s))).reverse)))

theorem div_is {k b q : Int} (hb : 0 < b) (h1 : b * q ≤ k) (h2 : k < b * q + b) : k / b = q := by
  have e1 := Int.mul_ediv_self_le (x := k) (k := b) (by omega)
  have e2 := Int.lt_mul_ediv_self_add (x := k) (k := b) hb
  have a : k / b ≤ q := by
    by_cases h : k / b ≤ q
    · exact h
    · have := Int.mul_le_mul_of_nonneg_left (show q + 1 ≤ k / b by omega) (show 0 ≤ b by omega)
      rw [Int.mul_add, Int.mul_one] at this
      omega
  have c : q ≤ k / b := by
    by_cases h : q ≤ k / b
    · exact h
    · have := Int.mul_le_mul_of_nonneg_left (show k / b + 1 ≤ q by omega) (show 0 ≤ b by omega)
      rw [Int.mul_add, Int.mul_one] at this
      omega
  omega
/-- how full a tick is behind k copies -/
def roomF (b stop k t : Int) : Int := if t < stop then max 0 (min b (k - b * (stop - 1 - t))) else 0
def tickF (b stop k : Int) : Int := if k = 0 then stop - 1 else stop - 1 - (k - 1) / b
theorem roomF_0 {b stop t : Int} (hb : 0 < b) : roomF b stop 0 t = 0 := by
  unfold roomF
  split
  · have := Int.mul_nonneg (show 0 ≤ b by omega) (show 0 ≤ stop - 1 - t by omega)
    omega
  · rfl
theorem roomF_succ {b stop k t : Int} (hb : 0 < b) (hk : 0 ≤ k) : roomF b stop (k + 1) t = roomF b stop k t + (if t = stop - 1 - k / b then 1 else 0) := by
  have e1 := Int.mul_ediv_self_le (x := k) (k := b) (by omega)
  have e2 := Int.lt_mul_ediv_self_add (x := k) (k := b) hb
  have e3 : 0 ≤ k / b := Int.ediv_nonneg hk (by omega)
  generalize k / b = q at *
  unfold roomF
  by_cases ht : t < stop
  · rw [if_pos ht, if_pos ht]
    rcases Int.lt_trichotomy (stop - 1 - t) q with h | h | h
    · have := Int.mul_le_mul_of_nonneg_left (show stop - 1 - t + 1 ≤ q by omega) (show 0 ≤ b by omega)
      rw [Int.mul_add, Int.mul_one] at this
      rw [if_neg (by omega)]
      omega
    · rw [if_pos (by omega), h]
      omega
    · have := Int.mul_le_mul_of_nonneg_left (show q + 1 ≤ stop - 1 - t by omega) (show 0 ≤ b by omega)
      rw [Int.mul_add, Int.mul_one] at this
      rw [if_neg (by omega)]
      omega
  · rw [if_neg ht, if_neg ht, if_neg (by omega)]
    rfl
/-- the tick at hand is full, or it is the one to be filled -/
theorem tick_full {b stop k : Int} (hb : 0 < b) (hk : 0 ≤ k) : (roomF b stop k (tickF b stop k) = b ∧ tickF b stop k - 1 = stop - 1 - k / b) ∨ (roomF b stop k (tickF b stop k) ≠ b ∧ tickF b stop k = stop - 1 - k / b) := by
  by_cases h0 : k = 0
  · subst h0
    refine .inr ⟨by rw [roomF_0 hb]; omega, ?_⟩
    unfold tickF
    rw [if_pos rfl, Int.zero_ediv]
    omega
  · have e1 := Int.mul_ediv_self_le (x := k - 1) (k := b) (by omega)
    have e2 := Int.lt_mul_ediv_self_add (x := k - 1) (k := b) hb
    have e3 : 0 ≤ (k - 1) / b := Int.ediv_nonneg (by omega) (by omega)
    have et : tickF b stop k = stop - 1 - (k - 1) / b := by unfold tickF; rw [if_neg h0]
    rw [et]
    generalize hq : (k - 1) / b = q at *
    have er : roomF b stop k (stop - 1 - q) = k - b * q := by
      unfold roomF
      rw [if_pos (by omega), show stop - 1 - (stop - 1 - q) = q by omega]
      omega
    rw [er]
    by_cases h : k - b * q = b
    · refine .inl ⟨h, ?_⟩
      have : k / b = q + 1 := div_is hb (by rw [Int.mul_add, Int.mul_one]; omega) (by rw [Int.mul_add, Int.mul_one]; omega)
      omega
    · refine .inr ⟨h, ?_⟩
      have : k / b = q := div_is hb (by omega) (by omega)
      omega
theorem tick_below {b stop k : Int} (hb : 0 < b) (hk : 0 ≤ k) : roomF b stop k (tickF b stop k - 1) ≠ b := by
  by_cases h0 : k = 0
  · subst h0; rw [roomF_0 hb]; omega
  · have e2 := Int.lt_mul_ediv_self_add (x := k - 1) (k := b) hb
    have e3 : 0 ≤ (k - 1) / b := Int.ediv_nonneg (by omega) (by omega)
    have et : tickF b stop k = stop - 1 - (k - 1) / b := by unfold tickF; rw [if_neg h0]
    rw [et]
    generalize (k - 1) / b = q at *
    unfold roomF
    rw [if_pos (by omega), show stop - 1 - (stop - 1 - q - 1) = q + 1 by omega, Int.mul_add, Int.mul_one]
    omega
theorem tickF_succ {b stop k : Int} (hk : 0 ≤ k) : tickF b stop (k + 1) = stop - 1 - k / b := by
  unfold tickF
  rw [if_neg (by omega), Int.add_sub_cancel]
theorem plc_snoc (b stop : Int) (xs : List Int) (x : Int) : plc b stop (xs ++ [x]) = plc b stop xs ++ [(stop - 1 - (xs.length : Int) / b, x)] := by
  unfold plc enumI
  rw [List.zipIdx_append, List.map_append, List.map_append]
  simp
theorem plc_len (b stop : Int) (xs : List Int) : (plc b stop xs).length = xs.length := by unfold plc enumI; simp
/-- what holds along the copies -/
structure PlI (b stop : Int) (pre : List Int) (st : List (Int × Int) × Dct Int × Int) : Prop where
  cop : st.1 = plc b stop pre
  room : ∀ t, ((st.2.1.get? t).getD 0) = roomF b stop pre.length t
  few : st.2.1.l.length ≤ pre.length
  tick : st.2.2 = tickF b stop pre.length
theorem PlI.start (b stop : Int) (hb : 0 < b) : PlI b stop [] ([], Dct.emp, stop - 1) :=
  ⟨by unfold plc enumI; rfl, fun t => by show (0 : Int) = roomF b stop ((0 : Nat) : Int) t; rw [show ((0 : Nat) : Int) = 0 from rfl, roomF_0 hb], Nat.le_refl _, by unfold tickF; rfl⟩
theorem PlI.tick_at {b stop : Int} {pre : List Int} {c : List (Int × Int)} {r : Dct Int} {t t' : Int} (h : PlI b stop pre (c, r, t)) (hb : 0 < b) (hi : t' = t ∨ (t' = t - 1 ∧ (r.get? t).getD 0 = b)) (hc : decide ((r.get? t').getD 0 = b) = false) :
    t' = stop - 1 - (pre.length : Int) / b := by
  have hr := h.room
  have ht := h.tick
  dsimp only at hr ht
  have hc' := of_decide_eq_false hc
  rw [hr] at hc'
  rcases tick_full (stop := stop) (k := (pre.length : Int)) hb (by omega) with ⟨q1, q2⟩ | ⟨q1, q2⟩
  · rcases hi with e | ⟨e, e2⟩
    · rw [e, ht] at hc'; exact absurd q1 hc'
    · rw [e, ht]; exact q2
  · rcases hi with e | ⟨e, e2⟩
    · rw [e, ht]; exact q2
    · rw [hr, ht] at e2; exact absurd e2 q1
theorem PlI.stops {b stop : Int} {pre : List Int} {c : List (Int × Int)} {r : Dct Int} {t : Int} (h : PlI b stop pre (c, r, t)) (hb : 0 < b) : decide ((r.get? (t - 1)).getD 0 = b) = false := by
  have hr := h.room
  have ht := h.tick
  dsimp only at hr ht
  rw [hr, ht]
  exact decide_eq_false (tick_below hb (by omega))
theorem Dct.put_len {α : Type} (d : Dct α) (k : Int) (x : α) : (d.put k x).l.length ≤ d.l.length + 1 := by
  unfold Dct.put
  dsimp only
  split
  · rw [List.length_map]; omega
  · rw [List.length_append]; simp
theorem PlI.next {b stop : Int} {pre : List Int} {c : List (Int × Int)} {r : Dct Int} {t t' x : Int} (h : PlI b stop pre (c, r, t)) (hb : 0 < b) (e : t' = stop - 1 - (pre.length : Int) / b) :
    PlI b stop (pre ++ [x]) (c ++ [(t', x)], r.put t' ((r.get? t').getD 0 + 1), t') := by
  have hr := h.room
  have hc := h.cop
  have hf := h.few
  dsimp only at hr hc hf
  have el : ((pre ++ [x]).length : Int) = (pre.length : Int) + 1 := by simp
  refine ⟨?_, fun j => ?_, ?_, ?_⟩
  · dsimp only; rw [plc_snoc, hc, e]
  · dsimp only
    rw [el, roomF_succ hb (by omega), Dct.get?_put, ← e]
    by_cases hj : j = t'
    · rw [if_pos hj, if_pos hj, hr, hj]; rfl
    · rw [if_neg hj, if_neg hj, hr]; omega
  · have := Dct.put_len r t' ((r.get? t').getD 0 + 1)
    simp only [List.length_append, List.length_singleton]
    omega
  · dsimp only; rw [el, tickF_succ (by omega), e]
theorem len_due (lasts : List Int) (m : Int) : (dueM lasts m).length ≤ lasts.length := by
  unfold dueM cutL
  rw [List.length_take, List.length_drop, List.length_map, (srt2_perm _).length_eq, List.length_map, len_enumI]
  omega
end GL

namespace GL
open PySem PySem.Spec PyProof.Rows L2
instance : Inhabited (Tp Int) := ⟨⟨[]⟩⟩
/-! ### stops one behind the other -/
abbrev ScanT := Sum (T3 Str Int (List (Int × Int))) (Str × List Int)
def scB (n : Int) (trace : List (Tp Int)) (b s : Int) (found : List Int) (stop : Int) : Fl (List Int) ScanT :=
  if decide ((planM n trace b s stop).1 = Str.ofString "plan") = true then .rt (.inl ⟨Str.ofString "stop", stop, lG (planM n trace b s stop).2⟩) else .nx (found ++ [(rG (planM n trace b s stop).2).getD default])
@[irreducible] def scanM (w : Str) (n : Int) (trace : List (Tp Int)) (b s m : Int) : ScanT := forL (scB n trace b s) (fun f => .inr (w, f)) (rng 0 m) []
theorem word_ne : Str.ofString "barred" ≠ Str.ofString "plan" := by decide
theorem plan_barred {n b s stop : Int} {trace : List (Tp Int)} (h : s < (leastM n trace b stop).1) : planM n trace b s stop = (Str.ofString "barred", .inr (leastM n trace b stop).2) := by
  unfold planM
  rw [if_pos (decide_eq_true h)]
theorem plan_plan {n b s stop : Int} {trace : List (Tp Int)} (h : (leastM n trace b stop).1 ≤ s) : planM n trace b s stop = (Str.ofString "plan", .inl (srt2 (plc b stop (dueM (lastsM n trace stop) (max 0 (n - s))).reverse))) := by
  unfold planM
  rw [if_neg (by rw [decide_eq_false (by omega)]; decide)]
theorem plan_left {n b s stop : Int} {trace : List (Tp Int)} (h : (planM n trace b s stop).1 = Str.ofString "plan") : (planM n trace b s stop).2.isLeft = true := by
  by_cases q : s < (leastM n trace b stop).1
  · rw [plan_barred q] at h; exact absurd h word_ne
  · rw [plan_plan (by omega)]; rfl
theorem plan_right {n b s stop : Int} {trace : List (Tp Int)} (hb : 0 ≤ b) (h0 : 0 ≤ stop) (hs : 0 ≤ s) (h : (planM n trace b s stop).1 ≠ Str.ofString "plan") : (planM n trace b s stop).2.isRight = true ∧ (rG (planM n trace b s stop).2).isSome = true := by
  by_cases q : s < (leastM n trace b stop).1
  · rw [plan_barred q]
    refine ⟨rfl, ?_⟩
    show (leastM n trace b stop).2.isSome = true
    refine Option.isSome_iff_ne_none.mpr fun e => ?_
    have := (least_spec (n := n) (trace := trace) hb h0).2.2.1.mpr e
    omega
  · rw [plan_plan (by omega)] at h; exact absurd rfl h
theorem forL_all {α τ ρ : Type} {body : τ → α → Fl τ ρ} {k : τ → ρ} (f : τ → α → τ) : ∀ (xs : List α) (s : τ), (∀ x ∈ xs, ∀ s, body s x = .nx (f s x)) → forL body k xs s = k (xs.foldl f s)
  | [], s, _ => rfl
  | x :: xs, s, h => by
    rw [forL, h x List.mem_cons_self]
    exact forL_all f xs (f s x) fun y hy => h y (List.mem_cons_of_mem _ hy)
theorem forL_app {α τ ρ : Type} {body : τ → α → Fl τ ρ} {k : τ → ρ} (f : τ → α → τ) : ∀ (xs ys : List α) (s : τ), (∀ x ∈ xs, ∀ s, body s x = .nx (f s x)) → forL body k (xs ++ ys) s = forL body k ys (xs.foldl f s)
  | [], ys, s, _ => rfl
  | x :: xs, ys, s, h => by
    rw [List.cons_append, forL, h x List.mem_cons_self]
    exact forL_app f xs ys (f s x) fun y hy => h y (List.mem_cons_of_mem _ hy)
theorem scB_barred {n b s stop : Int} {trace : List (Tp Int)} (h : s < (leastM n trace b stop).1) (f : List Int) : scB n trace b s f stop = .nx (f ++ [(leastM n trace b stop).2.getD default]) := by
  unfold scB
  rw [plan_barred h, if_neg (by rw [decide_eq_false word_ne]; decide)]
  rfl
theorem scB_plan {n b s stop : Int} {trace : List (Tp Int)} (h : (leastM n trace b stop).1 ≤ s) (f : List Int) : scB n trace b s f stop = .rt (.inl ⟨Str.ofString "stop", stop, srt2 (plc b stop (dueM (lastsM n trace stop) (max 0 (n - s))).reverse)⟩) := by
  unfold scB
  rw [plan_plan h, if_pos (decide_eq_true rfl)]
  rfl
theorem foldl_snoc {α β : Type} (g : α → β) : ∀ (xs : List α) (s : List β), xs.foldl (fun f x => f ++ [g x]) s = s ++ xs.map g
  | [], s => by simp
  | x :: xs, s => by rw [List.foldl_cons, foldl_snoc g xs, List.map_cons]; simp
/-- all barred -/
theorem scan_all {w : Str} {n b s m : Int} {trace : List (Tp Int)} (h : ∀ j, 0 ≤ j → j < m → s < (leastM n trace b j).1) : scanM w n trace b s m = .inr (w, (rng 0 m).map fun j => (leastM n trace b j).2.getD default) := by
  unfold scanM
  rw [forL_all (fun f j => f ++ [(leastM n trace b j).2.getD default]) _ _ fun x hx f => by
    have := mem_rng.mp hx
    exact scB_barred (h x this.1 this.2) f]
  rw [foldl_snoc]
  rfl
/-- the first that isn't -/
theorem scan_stop {w : Str} {n b s m m0 : Int} {trace : List (Tp Int)} (h0 : 0 ≤ m0) (h1 : m0 < m) (h : ∀ j, 0 ≤ j → j < m0 → s < (leastM n trace b j).1) (hp : (leastM n trace b m0).1 ≤ s) :
    scanM w n trace b s m = .inl ⟨Str.ofString "stop", m0, srt2 (plc b m0 (dueM (lastsM n trace m0) (max 0 (n - s))).reverse)⟩ := by
  unfold scanM
  obtain ⟨pre, post, e⟩ := List.append_of_mem (mem_rng.mpr ⟨h0, h1⟩ : m0 ∈ rng 0 m)
  obtain ⟨e1, _⟩ := rng_pre e.symm
  rw [e1] at e
  rw [e, forL_app (fun f j => f ++ [(leastM n trace b j).2.getD default]) _ _ _ fun x hx f => by
    have := mem_rng.mp hx
    exact scB_barred (h x this.1 this.2) f]
  rw [forL, scB_plan hp]
/-- each told number bars -/
theorem least_bars {n b s stop : Int} {trace : List (Tp Int)} (hb : 0 ≤ b) (h0 : 0 ≤ stop) (hs : 0 ≤ s) (h : s < (leastM n trace b stop).1) : barsM n trace b s stop ((leastM n trace b stop).2.getD default) = true := by
  obtain ⟨f1, f2, f3, f4⟩ := least_spec (n := n) (trace := trace) hb h0
  cases e : (leastM n trace b stop).2 with
  | none => have := f3.mpr e; omega
  | some t =>
    obtain ⟨g1, g2, g3⟩ := f4 t e
    rw [Option.getD_some]
    unfold barsM
    rw [if_pos ⟨g1, g2⟩, g3]
    exact decide_eq_true h
/-! ### what goes round -/
@[irreducible] def longM (lead ring : List (Tp Int)) (stop : Int) : List (Tp Int) := whl (fun f => decide ((f.length : Int) < stop)) (fun f => Fl.nx (f ++ ring)) id stop.toNat lead
def manyM (n : Int) (lead ring : List (Tp Int)) (b : Int) : Int := (lead.length : Int) + (ring.length : Int) + (n + b - 1) / b
@[irreducible] def everM (n : Int) (lead ring : List (Tp Int)) (b s : Int) : ScanT := scanM (Str.ofString "never") n (longM lead ring (manyM n lead ring b)) b s (manyM n lead ring b)
theorem long_spec {lead ring : List (Tp Int)} (hr : 0 < ring.length) (stop : Int) : ∃ m : Nat, longM lead ring stop = lead ++ (List.replicate m ring).flatten ∧ stop ≤ (longM lead ring stop).length ∧ (m = 0 ∨ ((longM lead ring stop).length : Int) < stop + ring.length) := by
  have h : ∀ (k : Nat) (f : List (Tp Int)) (m : Nat), f = lead ++ (List.replicate m ring).flatten → stop - f.length ≤ k → (m = 0 ∨ (f.length : Int) < stop + ring.length) →
      ∃ m' : Nat, whl (fun f => decide ((f.length : Int) < stop)) (fun f => Fl.nx (f ++ ring)) id k f = lead ++ (List.replicate m' ring).flatten ∧ stop ≤ (whl (fun f => decide ((f.length : Int) < stop)) (fun f => Fl.nx (f ++ ring)) id k f).length ∧
        (m' = 0 ∨ ((whl (fun f => decide ((f.length : Int) < stop)) (fun f => Fl.nx (f ++ ring)) id k f).length : Int) < stop + ring.length) := by
    intro k
    induction k with
    | zero => intro f m e hk hm; exact ⟨m, e, by show stop ≤ (f.length : Int); omega, hm⟩
    | succ k ih =>
      intro f m e hk hm
      rw [whl]
      by_cases q : (f.length : Int) < stop
      · rw [if_pos (decide_eq_true q)]
        refine ih (f ++ ring) (m + 1) ?_ (by rw [List.length_append]; omega) (.inr (by rw [List.length_append]; omega))
        rw [e, List.append_assoc, List.replicate_succ', List.flatten_append]
        simp
      · rw [if_neg (by rw [decide_eq_false q]; decide)]
        exact ⟨m, e, by show stop ≤ (f.length : Int); omega, hm⟩
  unfold longM
  exact h stop.toNat lead 0 (by simp) (by omega) (.inl rfl)
end GL
namespace GL
open PySem PySem.Spec PyProof.Rows L2
theorem many_bd {n b : Int} {lead ring : List (Tp Int)} (n0 : 0 ≤ n) (n1 : n ≤ 60) (b0 : 0 < b) (l0 : lead.length ≤ 10000) (r1 : ring.length ≤ 10000) : 0 ≤ manyM n lead ring b ∧ manyM n lead ring b ≤ 30000 := by
  unfold manyM
  have h1 : 0 ≤ (n + b - 1) / b := Int.ediv_nonneg (by omega) (by omega)
  have h2 : (n + b - 1) / b ≤ n := by
    by_cases h : n = 0
    · subst h
      rw [Int.ediv_eq_zero_of_lt (by omega) (by omega)]
      exact Int.le_refl _
    · have : (n + b - 1) / b < n + 1 := by
        apply Int.ediv_lt_of_lt_mul b0
        have : (n + 1) * b = n * b + b := by rw [Int.add_mul, Int.one_mul]
        have h3 : n * 1 ≤ n * b := Int.mul_le_mul_of_nonneg_left (by omega) n0
        omega
      omega
  omega
theorem long_ok {lead ring : List (Tp Int)} {stop : Int} (tl : TrOk lead) (tr : TrOk ring) (r0 : 0 < ring.length) (h : stop ≤ 30000) (r1 : ring.length ≤ 10000) : TrOk (longM lead ring stop) := by
  obtain ⟨m, h1, h2, h3⟩ := long_spec (lead := lead) r0 stop
  refine ⟨?_, fun t ht s hs => ?_⟩
  · rcases h3 with q | q
    · rw [q] at h1
      rw [h1]
      have := tl.len
      simpa using this
    · omega
  · rw [h1] at ht
    rcases List.mem_append.mp ht with q | q
    · exact tl.mem t q s hs
    · obtain ⟨l, hl, hq⟩ := List.mem_flatten.mp q
      rw [List.eq_of_mem_replicate hl] at hq
      exact tr.mem t hq s hs
end GL

namespace GL
open PySem PySem.Spec PyProof.Rows L2
/-- the last writing, told by where it is -/
theorem lastW_at {trace : List (Tp Int)} {stop p x : Int} (h0 : 0 ≤ p) (h1 : p < stop) (hx : x ∈ (trace.getD p.toNat ⟨[]⟩).l) (hn : ∀ i : Nat, p < i → (i : Int) < stop → x ∉ (trace.getD i ⟨[]⟩).l) : lastW trace stop x = p := by
  have h : ∀ n : Nat, p < n → (∀ i : Nat, p < i → i < n → x ∉ (trace.getD i ⟨[]⟩).l) → lastN trace n x = some p := by
    intro n
    induction n with
    | zero => intro q; omega
    | succ n ih =>
      intro q hh
      rw [lastN]
      by_cases e : p = n
      · rw [if_pos (by rw [e] at hx; exact hx), e]
      · rw [if_neg (hh n (by omega) (by omega))]
        exact ih (by omega) fun i a c => hh i a (by omega)
  unfold lastW
  rw [h stop.toNat (by omega) fun i a c => hn i a (by omega)]
  rfl
theorem lastW_none {trace : List (Tp Int)} {stop x : Int} (hn : ∀ i : Nat, (i : Int) < stop → x ∉ (trace.getD i ⟨[]⟩).l) : lastW trace stop x = -1 := by
  have h : ∀ n : Nat, (∀ i : Nat, i < n → x ∉ (trace.getD i ⟨[]⟩).l) → lastN trace n x = none := by
    intro n
    induction n with
    | zero => intro _; rfl
    | succ n ih =>
      intro hh
      rw [lastN, if_neg (hh n (by omega))]
      exact ih fun i a => hh i (by omega)
  unfold lastW
  rw [h stop.toNat fun i a => hn i (by omega)]
  rfl
/-- all written last at p -/
theorem least_flat {n b stop p : Int} {trace : List (Tp Int)} (hn : 0 < n) (hb : 0 < b) (hp : p < stop) (h : ∀ x, 0 ≤ x → x < n → lastW trace stop x = p) :
    leastM n trace b stop = if 0 < n - b * (stop - p - 1) then (n - b * (stop - p - 1), some p) else (0, none) := by
  have hl : lastsM n trace stop = List.replicate n.toNat p := by
    unfold lastsM
    apply List.eq_replicate_iff.mpr
    refine ⟨by rw [List.length_map, len_rng, Int.sub_zero], fun y hy => ?_⟩
    obtain ⟨x, hx, rfl⟩ := List.mem_map.mp hy
    rw [mem_rng] at hx
    exact h x hx.1 hx.2
  unfold leastM lsFold
  rw [hl]
  have e : ([p] : List Int) = usrt (List.replicate n.toNat p) := usrt_eq (List.pairwise_singleton _ _) fun k => by
    rw [List.mem_singleton, List.mem_replicate]
    exact ⟨fun h => ⟨by omega, h⟩, fun h => h.2⟩
  rw [← e, List.foldl_cons, List.foldl_nil]
  have el : lackM (List.replicate n.toNat p) b stop p = n - b * (stop - p - 1) := by
    unfold lackM
    rw [List.filter_replicate_of_pos (by simp), List.length_replicate]
    omega
  unfold lsStep
  rw [el, decide_eq_true hp, Bool.true_and]
  simp only [decide_eq_true_eq]
theorem ceil_le {n b j : Int} (hb : 0 < b) : (n + b - 1) / b ≤ j ↔ n ≤ b * j := by
  have e1 := Int.mul_ediv_self_le (x := n + b - 1) (k := b) (by omega)
  have e2 := Int.lt_mul_ediv_self_add (x := n + b - 1) (k := b) hb
  generalize (n + b - 1) / b = q at *
  constructor
  · intro h
    have := Int.mul_le_mul_of_nonneg_left h (show 0 ≤ b by omega)
    omega
  · intro h
    by_cases g : q ≤ j
    · exact g
    · have := Int.mul_le_mul_of_nonneg_left (show j + 1 ≤ q by omega) (show 0 ≤ b by omega)
      rw [Int.mul_add, Int.mul_one] at this
      omega
theorem flat_get {α : Type} (r : List α) (hr : 0 < r.length) : ∀ (m i : Nat), i < m * r.length → ((List.replicate m r).flatten)[i]? = r[i % r.length]?
  | 0, i, h => by omega
  | m + 1, i, h => by
    rw [List.replicate_succ, List.flatten_cons]
    by_cases q : i < r.length
    · rw [List.getElem?_append_left q, Nat.mod_eq_of_lt q]
    · rw [List.getElem?_append_right (by omega), flat_get r hr m (i - r.length) (by rw [Nat.add_mul, Nat.one_mul] at h; omega), ← Nat.mod_eq_sub_mod (by omega)]
theorem flat_len {α : Type} (r : List α) (m : Nat) : ((List.replicate m r).flatten).length = m * r.length := by
  induction m with
  | zero => simp
  | succ m ih => rw [List.replicate_succ, List.flatten_cons, List.length_append, ih, Nat.add_mul, Nat.one_mul]; omega
/-- what goes round, tick by tick -/
theorem long_at {lead ring : List (Tp Int)} (hr : 0 < ring.length) {stop : Int} {i : Nat} (hi : (i : Int) < stop) : (longM lead ring stop).getD i ⟨[]⟩ = if i < lead.length then lead.getD i ⟨[]⟩ else ring.getD ((i - lead.length) % ring.length) ⟨[]⟩ := by
  obtain ⟨m, h1, h2, h3⟩ := long_spec (lead := lead) hr stop
  rw [h1] at h2 ⊢
  rw [List.length_append, flat_len] at h2
  by_cases q : i < lead.length
  · rw [if_pos q, List.getD_eq_getElem?_getD, List.getElem?_append_left q, List.getD_eq_getElem?_getD]
  · rw [if_neg q, List.getD_eq_getElem?_getD, List.getElem?_append_right (by omega), flat_get ring hr m _ (by omega), List.getD_eq_getElem?_getD]
abbrev wholeT (n : Int) : Tp Int := ⟨rng 0 n⟩
theorem rep_getD {α : Type} {c i : Nat} {x d : α} (h : i < c) : (List.replicate c x).getD i d = x := by
  rw [List.getD_eq_getElem?_getD, List.getElem?_replicate, if_pos h]; rfl
/-- written at the tick ahead: barred -/
theorem least_now {n b j : Int} {T : List (Tp Int)} (hn : 0 < n) (hb : 0 < b) (h0 : 0 ≤ j) (h : 0 < j → T.getD (j - 1).toNat ⟨[]⟩ = wholeT n) : leastM n T b j = (n, some (j - 1)) := by
  rw [least_flat (p := j - 1) hn hb (by omega) fun x hx hx2 => ?_]
  · rw [show j - (j - 1) - 1 = 0 by omega, Int.mul_zero, Int.sub_zero, if_pos hn]
  · by_cases q : 0 < j
    · exact lastW_at (by omega) (by omega) (by rw [h q]; exact mem_rng.mpr ⟨hx, hx2⟩) fun i a c => by omega
    · rw [lastW_none fun i hi => by omega]; omega
/-- written at p last of all, quiet since -/
theorem least_since {n b j p : Int} {T : List (Tp Int)} (hn : 0 < n) (hb : 0 < b) (hp : p < j) (h0 : -1 ≤ p) (h : 0 ≤ p → T.getD p.toNat ⟨[]⟩ = wholeT n) (hq : ∀ i : Nat, p < i → (i : Int) < j → T.getD i ⟨[]⟩ = ⟨[]⟩) :
    (leastM n T b j).1 = max 0 (n - b * (j - p - 1)) := by
  rw [least_flat (p := p) hn hb hp fun x hx hx2 => ?_]
  · split <;> dsimp only <;> omega
  · by_cases q : 0 ≤ p
    · exact lastW_at q hp (by rw [h q]; exact mem_rng.mpr ⟨hx, hx2⟩) fun i a c => by rw [hq i a c]; simp
    · rw [lastW_none fun i hi => by rw [hq i (by omega) hi]; simp]; omega
theorem long_bd {n b : Int} (hn : 0 < n) (hb : 0 < b) : 0 < (n + b - 1) / b := by
  by_cases h : 0 < (n + b - 1) / b
  · exact h
  · have := (ceil_le (n := n) (j := 0) hb).mp (by omega)
    rw [Int.mul_zero] at this
    omega
theorem k26_never {n b : Int} {c : Nat} (hn : 0 < n) (hb : 0 < b) : ∃ ts : List Int, everM n (List.replicate c (wholeT n)) [wholeT n] b (n - 1) = .inr (Str.ofString "never", ts) ∧ (ts.length : Int) = c + 1 + (n + b - 1) / b ∧
    ∀ p ∈ enumI ts, barsM n (List.replicate c (wholeT n) ++ List.replicate ((n + b - 1) / b + 1).toNat (wholeT n)) b (n - 1) p.1 p.2 = true := by
  have hl := long_bd hn hb
  have hm : manyM n (List.replicate c (wholeT n)) [wholeT n] b = c + 1 + (n + b - 1) / b := by unfold manyM; rw [List.length_replicate]; rfl
  have hT : ∀ j : Int, 0 ≤ j → j < c + 1 + (n + b - 1) / b → leastM n (longM (List.replicate c (wholeT n)) [wholeT n] (c + 1 + (n + b - 1) / b)) b j = (n, some (j - 1)) := fun j h0 h1 =>
    least_now hn hb h0 fun q => by
      rw [long_at (by simp) (by omega), List.length_replicate]
      split
      · exact rep_getD (by assumption)
      · rw [List.length_singleton, Nat.mod_one]; rfl
  unfold everM
  rw [hm, scan_all fun j h0 h1 => by rw [hT j h0 h1]; dsimp only; omega]
  refine ⟨_, rfl, by rw [List.length_map, len_rng]; omega, fun p hp => ?_⟩
  obtain ⟨h0, h1⟩ := mem_enumI.mp hp
  rw [List.getElem?_map] at h1
  obtain ⟨j, hj, e⟩ := Option.map_eq_some_iff.mp h1
  have hlt : p.1.toNat < (c + 1 + (n + b - 1) / b - 0).toNat := by
    have := (List.getElem?_eq_some_iff.mp hj).1
    rwa [len_rng] at this
  rw [rng_get hlt] at hj
  have ej : j = p.1 := by have := Option.some.inj hj; omega
  rw [← e, ej, hT p.1 h0 (by omega)]
  have hU : leastM n (List.replicate c (wholeT n) ++ List.replicate ((n + b - 1) / b + 1).toNat (wholeT n)) b p.1 = (n, some (p.1 - 1)) := least_now hn hb h0 fun q => by
    rw [List.replicate_append_replicate]
    exact rep_getD (by omega)
  have := least_bars (n := n) (b := b) (s := n - 1) (trace := List.replicate c (wholeT n) ++ List.replicate ((n + b - 1) / b + 1).toNat (wholeT n)) (stop := p.1) (by omega) h0 (by omega) (by rw [hU]; dsimp only; omega)
  rw [hU] at this
  exact this
theorem burst_at {n b : Int} {c q : Nat} {stop : Int} {i : Nat} (hi : (i : Int) < stop) : (longM (List.replicate c (wholeT n)) ([wholeT n] ++ List.replicate q ⟨[]⟩) stop).getD i ⟨[]⟩ = if i < c ∨ (i - c) % (q + 1) = 0 then wholeT n else ⟨[]⟩ := by
  rw [long_at (by simp) hi, List.length_replicate]
  by_cases h : i < c
  · rw [if_pos h, if_pos (.inl h)]; exact rep_getD h
  · have hl : ([wholeT n] ++ List.replicate q (⟨[]⟩ : Tp Int)).length = q + 1 := by simp
    rw [if_neg h, hl]
    have hlt := Nat.mod_lt (i - c) (show 0 < q + 1 by omega)
    generalize (i - c) % (q + 1) = r at *
    cases r with
    | zero => rw [if_pos (.inr rfl)]; rfl
    | succ r =>
      rw [if_neg (by omega)]
      show (List.replicate q (⟨[]⟩ : Tp Int)).getD r ⟨[]⟩ = _
      exact rep_getD (by omega)
theorem k26_burst {n b quiet : Int} {c : Nat} (hn : 0 < n) (hb : 0 < b) (hq0 : (n + b - 1) / b - 1 ≤ quiet) :
    (quiet < (n + b - 1) / b → ∃ ts, everM n (List.replicate c (wholeT n)) ([wholeT n] ++ List.replicate quiet.toNat ⟨[]⟩) b 0 = .inr (Str.ofString "never", ts)) ∧
    ((n + b - 1) / b ≤ quiet → ∃ cs, everM n (List.replicate c (wholeT n)) ([wholeT n] ++ List.replicate quiet.toNat ⟨[]⟩) b 0 = .inl ⟨Str.ofString "stop", c + 1 + (n + b - 1) / b, cs⟩) := by
  have hl := long_bd hn hb
  have hcl : ∀ e : Int, (n + b - 1) / b ≤ e ↔ n ≤ b * e := fun e => ceil_le hb
  generalize hL : (n + b - 1) / b = L at *
  have hm : manyM n (List.replicate c (wholeT n)) ([wholeT n] ++ List.replicate quiet.toNat ⟨[]⟩) b = c + (1 + quiet) + L := by
    unfold manyM
    rw [List.length_replicate, List.length_append, List.length_replicate, List.length_singleton, hL]
    omega
  unfold everM
  rw [hm]
  generalize hT : longM (List.replicate c (wholeT n)) ([wholeT n] ++ List.replicate quiet.toNat ⟨[]⟩) (c + (1 + quiet) + L) = T
  have hat : ∀ i : Nat, (i : Int) < c + (1 + quiet) + L → T.getD i ⟨[]⟩ = if i < c ∨ (i - c) % (quiet.toNat + 1) = 0 then wholeT n else ⟨[]⟩ := fun i hi => by rw [← hT]; exact burst_at (b := b) hi
  have h1 : ∀ j : Int, 0 ≤ j → j ≤ c → (leastM n T b j).1 = n := fun j h0 h1 => by
    rw [least_now hn hb h0 fun q => by rw [hat _ (by omega), if_pos (.inl (by omega))]]
  have h2 : ∀ e : Int, 0 ≤ e → e ≤ quiet → e < quiet + L → (leastM n T b (c + 1 + e)).1 = max 0 (n - b * e) := fun e h0 h1 h3 => by
    rw [least_since (p := c) hn hb (by omega) (by omega) (fun _ => by rw [hat _ (by omega), if_pos (.inr (by rw [show ((c : Int).toNat - c) = 0 by omega, Nat.zero_mod]))]) fun i a d => by
      rw [hat _ (by omega), if_neg (fun hh => by
        rcases hh with hh | hh
        · omega
        · rw [Nat.mod_eq_of_lt (by omega)] at hh; omega)]]
    rw [show (c : Int) + 1 + e - c - 1 = e by omega]
  refine ⟨fun hlt => ?_, fun hge => ?_⟩
  · have hq : quiet = L - 1 := by omega
    have h3 : ∀ e : Int, 0 ≤ e → e < L - 1 → (leastM n T b (c + L + 1 + e)).1 = max 0 (n - b * e) := fun e h0 h1 => by
      have e1 : quiet.toNat + 1 = L.toNat := by omega
      rw [least_since (p := c + L) hn hb (by omega) (by omega) (fun _ => by
        rw [hat _ (by omega), if_pos (.inr (by rw [show ((c : Int) + L).toNat - c = L.toNat by omega, e1, Nat.mod_self]))]) fun i a d => by
        rw [hat _ (by omega), if_neg (fun hh => by
          rcases hh with hh | hh
          · omega
          · rw [e1, Nat.mod_eq_sub_mod (by omega), Nat.mod_eq_of_lt (by omega)] at hh; omega)]]
      rw [show (c : Int) + L + 1 + e - (c + L) - 1 = e by omega]
    refine ⟨_, scan_all fun j h0 hj => ?_⟩
    by_cases q1 : j ≤ c
    · rw [h1 j h0 q1]; exact hn
    · by_cases q2 : j ≤ c + L
      · have := h2 (j - c - 1) (by omega) (by omega) (by omega)
        rw [show (c : Int) + 1 + (j - c - 1) = j by omega] at this
        rw [this]
        have := mt (hcl (j - c - 1)).mpr (by omega)
        omega
      · have := h3 (j - c - L - 1) (by omega) (by omega)
        rw [show (c : Int) + L + 1 + (j - c - L - 1) = j by omega] at this
        rw [this]
        have := mt (hcl (j - c - L - 1)).mpr (by omega)
        omega
  · refine ⟨_, scan_stop (m0 := c + 1 + L) (by omega) (by omega) (fun j h0 hj => ?_) ?_⟩
    · by_cases q1 : j ≤ c
      · rw [h1 j h0 q1]; exact hn
      · have := h2 (j - c - 1) (by omega) (by omega) (by omega)
        rw [show (c : Int) + 1 + (j - c - 1) = j by omega] at this
        rw [this]
        have := mt (hcl (j - c - 1)).mpr (by omega)
        omega
    · rw [h2 L (by omega) hge (by omega)]
      have := (hcl L).mp (Int.le_refl _)
      omega
theorem len_due_all (lasts : List Int) : (dueM lasts lasts.length).length = lasts.length := by
  unfold dueM cutL
  have hl : ((srt2 ((enumI lasts).map fun x => (x.2, x.1))).map fun x => x.2).length = lasts.length := by rw [List.length_map, (srt2_perm _).length_eq, List.length_map, len_enumI]
  rw [List.length_take, List.length_drop, hl, HT.sIx_none, HT.sIx_nat]
  omega
theorem k26_quiet {n b : Int} {c : Nat} (hn : 0 < n) (hb : 0 < b) : ∃ cs : List (Int × Int), everM n (List.replicate c (wholeT n)) [⟨[]⟩] b 0 = .inl ⟨Str.ofString "stop", c + (n + b - 1) / b, cs⟩ ∧ (cs.length : Int) = n := by
  have hl := long_bd hn hb
  have hcl : ∀ e : Int, (n + b - 1) / b ≤ e ↔ n ≤ b * e := fun e => ceil_le hb
  generalize hL : (n + b - 1) / b = L at *
  have hm : manyM n (List.replicate c (wholeT n)) [⟨[]⟩] b = c + 1 + L := by
    unfold manyM
    rw [List.length_replicate, List.length_singleton, hL]
    rfl
  unfold everM
  rw [hm]
  generalize hT : longM (List.replicate c (wholeT n)) [⟨[]⟩] (c + 1 + L) = T
  have hat : ∀ i : Nat, (i : Int) < c + 1 + L → T.getD i ⟨[]⟩ = if i < c then wholeT n else ⟨[]⟩ := fun i hi => by
    rw [← hT, long_at (by simp) hi, List.length_replicate]
    by_cases h : i < c
    · rw [if_pos h, if_pos h]; exact rep_getD h
    · rw [if_neg h, if_neg h, List.length_singleton, Nat.mod_one]; rfl
  have h2 : ∀ e : Int, 0 ≤ e → e ≤ L → (leastM n T b (c + e)).1 = max 0 (n - b * e) := fun e h0 h1 => by
    rw [least_since (p := c - 1) hn hb (by omega) (by omega) (fun _ => by rw [hat _ (by omega), if_pos (by omega)]) fun i a d => by rw [hat _ (by omega), if_neg (by omega)]]
    rw [show (c : Int) + e - (c - 1) - 1 = e by omega]
  refine ⟨_, scan_stop (m0 := c + L) (by omega) (by omega) (fun j h0 hj => ?_) ?_, ?_⟩
  · by_cases q1 : j ≤ c
    · rw [least_now hn hb h0 fun q => by rw [hat _ (by omega), if_pos (by omega)]]
      exact hn
    · have := h2 (j - c) (by omega) (by omega)
      rw [show (c : Int) + (j - c) = j by omega] at this
      rw [this]
      have := mt (hcl (j - c)).mpr (by omega)
      omega
  · rw [h2 L (by omega) (Int.le_refl _)]
    have := (hcl L).mp (Int.le_refl _)
    omega
  · rw [(srt2_perm _).length_eq, plc_len, List.length_reverse]
    have e := len_due_all (lastsM n T (c + L))
    rw [len_lasts] at e
    rw [show max 0 (n - 0) = ((n.toNat : Nat) : Int) by omega, e]
    omega
theorem trok_of {n : Int} {T : List (Tp Int)} (hn : n ≤ 1000) (hl : T.length ≤ 100000) (h : ∀ t ∈ T, t = wholeT n ∨ t = ⟨[]⟩) : TrOk T := ⟨hl, fun t ht s hs => by
  rcases h t ht with e | e
  · rw [e] at hs
    have := mem_rng.mp hs
    omega
  · rw [e] at hs
    simp at hs⟩
instance {α β γ : Type} [Inhabited α] [Inhabited β] [Inhabited γ] : Inhabited (T3 α β γ) := ⟨⟨default, default, default⟩⟩
end GL

namespace GL
open PySem PySem.Spec PyProof.Rows L2
theorem cop_other {b tick x : Int} : ∀ {l : List (Int × Int)} {d : Dct Int}, x ∉ l.map (·.2) → ((l.foldl (rdCop b tick) d).get? x) = d.get? x
  | [], _, _ => rfl
  | p :: l, d, h => by
    rw [List.map_cons, List.mem_cons] at h
    rw [List.foldl_cons, cop_other (l := l) fun q => h (.inr q)]
    unfold rdCop
    rw [Dct.get?_put, if_neg fun q => h (.inl q)]
theorem cop_this {b tick : Int} : ∀ {l : List (Int × Int)} {d : Dct Int}, (l.map (·.2)).Nodup → ∀ p ∈ l, ((l.foldl (rdCop b tick) d).get? p.2) = some (tick + p.1 / b)
  | [], _, _, p, h => by simp at h
  | q :: l, d, hn, p, h => by
    rw [List.map_cons, List.nodup_cons] at hn
    rw [List.foldl_cons]
    rcases List.mem_cons.mp h with e | e
    · subst e
      rw [cop_other hn.1]
      unfold rdCop
      rw [Dct.get?_put, if_pos rfl]
    · exact cop_this hn.2 p e
theorem cop_at {b tick : Int} {xs : List Int} {d : Dct Int} (hn : xs.Nodup) {i : Nat} {x : Int} (h : xs[i]? = some x) : (((enumI xs).foldl (rdCop b tick) d).get? x) = some (tick + (i : Int) / b) :=
  cop_this (p := ((i : Int), x)) (by rw [enumI_snd]; exact hn) (mem_enumI.mpr ⟨by simp, by simpa using h⟩)
theorem cop_rng {b tick n x : Int} {d : Dct Int} (h0 : 0 ≤ x) (h1 : x < n) : dix ((enumI (rng 0 n)).foldl (rdCop b tick) d) x = tick + x / b := by
  have h := cop_at (b := b) (tick := tick) (d := d) (rng_nodup 0 n) (i := x.toNat) (x := x) (by rw [rng_get (by omega)]; congr 1; omega)
  rw [dix_of h]
  congr 2
  omega
theorem due_eq (n tick : Int) (trace : List (Tp Int)) (c : Dct Int) : rdDue n trace c tick = (rng 0 n).filter fun x => match lastN trace tick.toNat x with | some t => decide (dix c x ≤ t) | none => false := by
  unfold rdDue
  rw [List.map_id']
  apply List.filter_congr
  intro x _
  unfold dix
  rw [writtenIn_get]
  cases lastN trace tick.toNat x <;> rfl
theorem filter_all {α : Type} {l : List α} {f : α → Bool} (h : ∀ x ∈ l, f x = true) : l.filter f = l := List.filter_eq_self.mpr h
theorem filter_none {α : Type} {l : List α} {f : α → Bool} (h : ∀ x ∈ l, f x = false) : l.filter f = [] := List.filter_eq_nil_iff.mpr fun x hx => by rw [h x hx]; decide
/-- just one is in it -/
theorem filter_one {n s : Int} (h0 : 0 ≤ s) (h1 : s < n) {f : Int → Bool} (hs : f s = true) (ho : ∀ x, x ≠ s → f x = false) : (rng 0 n).filter f = [s] := by
  have h : ∀ m : Nat, ((rng 0 (m : Int)).filter f) = if s < (m : Int) then [s] else [] := by
    intro m
    induction m with
    | zero => rw [rng_nil (by omega), if_neg (by omega)]; rfl
    | succ m ih =>
      rw [show ((m + 1 : Nat) : Int) = (m : Int) + 1 by omega, rng_succ (by omega), List.filter_append, ih, List.filter_cons, List.filter_nil]
      by_cases e : (m : Int) = s
      · rw [e, if_neg (by omega), if_pos hs, if_pos (by omega)]
        rfl
      · rw [if_neg (show ¬ f (m : Int) = true by rw [ho _ e]; decide)]
        by_cases q : s < (m : Int)
        · rw [if_pos q, if_pos (by omega)]
          rfl
        · rw [if_neg q, if_neg (by omega)]
          rfl
  have := h n.toNat
  rw [show ((n.toNat : Nat) : Int) = n by omega, if_pos h1] at this
  exact this
/-! a trace in which all are written -/
theorem flat_one {α : Type} (x : α) : ∀ m : Nat, (List.replicate m [x]).flatten = List.replicate m x
  | 0 => rfl
  | m + 1 => by rw [List.replicate_succ, List.flatten_cons, flat_one x m]; rfl
theorem last_all {n x : Int} {m k : Nat} (h0 : 0 ≤ x) (h1 : x < n) (hk : 0 < k) (hm : k ≤ m) : lastN (List.replicate m (⟨rng 0 n⟩ : Tp Int)) k x = some ((k : Int) - 1) := by
  cases k with
  | zero => omega
  | succ k =>
    rw [lastN, if_pos]
    · congr 1
      omega
    · rw [List.getD_eq_getElem?_getD, List.getElem?_replicate, if_pos (by omega)]
      exact mem_rng.mpr ⟨h0, h1⟩
theorem last_nil (x : Int) : ∀ k, lastN [] k x = none
  | 0 => rfl
  | k + 1 => by
    rw [lastN, last_nil x k, if_neg]
    show ¬ x ∈ ([] : List Int)
    simp
theorem last_one {sheet x : Int} {beat : Nat} : ∀ k : Nat, lastN (List.replicate beat (⟨[]⟩ : Tp Int) ++ [⟨[sheet]⟩]) k x = if x = sheet ∧ beat < k then some (beat : Int) else none
  | 0 => by rw [if_neg (by omega)]; rfl
  | k + 1 => by
    rw [lastN, last_one k]
    have e : ((List.replicate beat (⟨[]⟩ : Tp Int) ++ [(⟨[sheet]⟩ : Tp Int)] : List (Tp Int)).getD k ⟨[]⟩).l = if k = beat then [sheet] else [] := by
      rw [List.getD_eq_getElem?_getD]
      by_cases h : k < beat
      · rw [List.getElem?_append_left (by rw [List.length_replicate]; exact h), List.getElem?_replicate, if_pos h, if_neg (by omega)]
        rfl
      · rw [List.getElem?_append_right (by rw [List.length_replicate]; omega), List.length_replicate]
        by_cases h2 : k = beat
        · subst h2
          rw [Nat.sub_self, if_pos rfl]
          rfl
        · rw [List.getElem?_eq_none (by show 1 ≤ k - beat; omega), if_neg h2]
          rfl
    rw [e]
    by_cases h : k = beat
    · subst h
      rw [if_pos rfl]
      by_cases hx : x = sheet
      · subst hx
        rw [if_pos (by simp), if_pos ⟨rfl, by omega⟩]
      · rw [if_neg (by simpa using hx), if_neg (by omega), if_neg (by omega)]
    · rw [if_neg h, if_neg (by simp)]
      by_cases hx : x = sheet ∧ beat < k
      · rw [if_pos hx, if_pos ⟨hx.1, by omega⟩]
      · rw [if_neg hx, if_neg (by omega)]
theorem div_lt {x n b : Int} (h0 : 0 ≤ x) (h1 : x < n) (hb : 1 ≤ b) : x / b ≤ (n + b - 1) / b - 1 := by
  have e : (n + b - 1) / b = (n - 1) / b + 1 := by
    rw [show n + b - 1 = (n - 1) + b * 1 by omega, Int.add_mul_ediv_left _ _ (by omega)]
  rw [e]
  have := Int.ediv_le_ediv (a := x) (b := n - 1) (c := b) (by omega) (by omega)
  omega
theorem long_pos {n b : Int} (h : 1 ≤ n) (hb : 1 ≤ b) : 1 ≤ (n + b - 1) / b := by
  have := div_lt (x := 0) (n := n) (b := b) (by omega) (by omega) hb
  rw [Int.zero_ediv] at this
  omega
theorem len_rng0 {n : Int} (h : 0 ≤ n) : ((rng 0 n).length : Int) = n := by
  rw [len_rng]
  omega
theorem rng_ne {n : Int} (h : 1 ≤ n) : rng 0 n ≠ [] := fun e => by
  have := congrArg List.length e
  rw [len_rng] at this
  simp at this
  omega
theorem whl_step {τ ρ : Type} {c : τ → Bool} {body : τ → Fl τ ρ} {k : τ → ρ} {n : Nat} {s s' : τ} (hc : c s = true) (hb : body s = .nx s') : whl c body k (n + 1) s = whl c body k n s' := by
  rw [whl, if_pos hc, hb]
theorem whl_stop {τ ρ : Type} {c : τ → Bool} {body : τ → Fl τ ρ} {k : τ → ρ} {n : Nat} {s : τ} (hc : c s = false) : whl c body k n s = k s := by
  cases n with
  | zero => rfl
  | succ n => rw [whl, if_neg (by rw [hc]; decide)]
section
variable {n b most : Int} (hn : 1 ≤ n) (hb : 1 ≤ b)
include hn hb
/-- one round over all sheets -/
theorem rdN_all {trace : List (Tp Int)} {found : List (Int × Tp Int)} {c : Dct Int} {tick : Int} : rdN n trace b (found, c, tick, rng 0 n) = (found ++ [(tick, ⟨rng 0 n⟩)], (enumI (rng 0 n)).foldl (rdCop b tick) c, tick + (n + b - 1) / b,
    (rng 0 n).filter fun x => match lastN trace (tick + (n + b - 1) / b).toNat x with | some t => decide (tick + x / b ≤ t) | none => false) := by
  unfold rdN
  dsimp only
  rw [len_rng0 (by omega), due_eq]
  congr 3
  apply List.filter_congr
  intro x hx
  rw [mem_rng] at hx
  rw [cop_rng hx.1 hx.2]
theorem rounds_all (hm : 1 ≤ most) : roundsM n (List.replicate ((n + b - 1) / b * most).toNat (⟨rng 0 n⟩ : Tp Int)) b (n - 1) most = ⟨(rng 0 most).map fun x => ((n + b - 1) / b * x, ⟨rng 0 n⟩), (n + b - 1) / b * most, ⟨rng 0 n⟩⟩ := by
  have hl := long_pos hn hb
  have main : ∀ (j : Nat) (k : Nat) (c : Dct Int), j + k = most.toNat → whl (rdC most (n - 1)) (rdB n (List.replicate ((n + b - 1) / b * most).toNat (⟨rng 0 n⟩ : Tp Int)) b) rdK k ((rng 0 (j : Int)).map (fun x => ((n + b - 1) / b * x, (⟨rng 0 n⟩ : Tp Int))), c, (n + b - 1) / b * (j : Int), rng 0 n) =
      ⟨(rng 0 most).map fun x => ((n + b - 1) / b * x, ⟨rng 0 n⟩), (n + b - 1) / b * most, ⟨rng 0 n⟩⟩ := by
    intro j k
    induction k generalizing j with
    | zero =>
      intro c e
      rw [whl]
      unfold rdK
      have : (j : Int) = most := by omega
      rw [this]
    | succ k ih =>
      intro c e
      have hc : rdC most (n - 1) ((rng 0 (j : Int)).map (fun x => ((n + b - 1) / b * x, (⟨rng 0 n⟩ : Tp Int))), c, (n + b - 1) / b * (j : Int), rng 0 n) = true := by
        unfold rdC
        dsimp only
        rw [List.length_map, len_rng0 (by omega), len_rng0 (by omega), decide_eq_false (rng_ne hn), decide_eq_true (show (j : Int) < most by omega), decide_eq_true (show n - 1 < n by omega)]
        simp
      rw [whl_step hc (s' := ((rng 0 ((j + 1 : Nat) : Int)).map (fun x => ((n + b - 1) / b * x, (⟨rng 0 n⟩ : Tp Int))), (enumI (rng 0 n)).foldl (rdCop b ((n + b - 1) / b * (j : Int))) c, (n + b - 1) / b * ((j + 1 : Nat) : Int), rng 0 n)) ?_]
      · exact ih (j + 1) _ (by omega)
      · unfold rdB
        rw [rdN_all hn hb]
        congr 1
        have et : (n + b - 1) / b * (j : Int) + (n + b - 1) / b = (n + b - 1) / b * ((j + 1 : Nat) : Int) := by
          rw [show ((j + 1 : Nat) : Int) = (j : Int) + 1 by omega, Int.mul_add, Int.mul_one]
        rw [et]
        congr 1
        · rw [show ((j + 1 : Nat) : Int) = (j : Int) + 1 by omega, rng_succ (by omega), List.map_append]
          rfl
        · congr 2
          apply filter_all
          intro x hx
          rw [mem_rng] at hx
          have h1 : (n + b - 1) / b * ((j + 1 : Nat) : Int) ≤ (n + b - 1) / b * most := Int.mul_le_mul_of_nonneg_left (by omega) (by omega)
          have h2 : 1 ≤ (n + b - 1) / b * ((j + 1 : Nat) : Int) := by
            have h3 : (n + b - 1) / b * 1 ≤ (n + b - 1) / b * ((j + 1 : Nat) : Int) := Int.mul_le_mul_of_nonneg_left (by omega) (by omega)
            omega
          rw [last_all hx.1 hx.2 (by omega) (by omega)]
          apply decide_eq_true
          have := div_lt hx.1 hx.2 hb
          omega
  have := main 0 most.toNat Dct.emp (by omega)
  rw [show ((0 : Nat) : Int) = 0 from rfl, Int.mul_zero, rng_nil (Int.le_refl 0), List.map_nil] at this
  unfold roundsM
  exact this
theorem first_round {trace : List (Tp Int)} {sl : Int} (hm : 1 ≤ most) : roundsM n trace b sl most = whl (rdC most sl) (rdB n trace b) rdK (most.toNat - 1) ([(0, ⟨rng 0 n⟩)], (enumI (rng 0 n)).foldl (rdCop b 0) Dct.emp, (n + b - 1) / b,
    (rng 0 n).filter fun x => match lastN trace ((n + b - 1) / b).toNat x with | some t => decide (x / b ≤ t) | none => false) := by
  unfold roundsM
  obtain ⟨k, hk⟩ : ∃ k, most.toNat = k + 1 := ⟨most.toNat - 1, by omega⟩
  rw [hk, Nat.add_sub_cancel]
  apply whl_step
  · unfold rdC
    dsimp only
    rw [decide_eq_false (rng_ne hn), List.length_nil, decide_eq_true (show ((0 : Nat) : Int) < most by omega)]
    simp
  · unfold rdB
    rw [rdN_all hn hb, Int.zero_add]
    congr 4
    apply List.filter_congr
    intro x _
    cases lastN trace ((n + b - 1) / b).toNat x with
    | none => rfl
    | some t => simp
theorem rounds_allLeft {m : Nat} (hm : 1 ≤ most) (hk : ((n + b - 1) / b).toNat ≤ m) : roundsM n (List.replicate m (⟨rng 0 n⟩ : Tp Int)) b n most = ⟨[(0, ⟨rng 0 n⟩)], (n + b - 1) / b, ⟨rng 0 n⟩⟩ := by
  have hl := long_pos hn hb
  rw [first_round hn hb hm]
  have e : ((rng 0 n).filter fun x => match lastN (List.replicate m (⟨rng 0 n⟩ : Tp Int)) ((n + b - 1) / b).toNat x with | some t => decide (x / b ≤ t) | none => false) = rng 0 n := by
    apply filter_all
    intro x hx
    rw [mem_rng] at hx
    rw [last_all hx.1 hx.2 (by omega) hk]
    apply decide_eq_true
    have := div_lt hx.1 hx.2 hb
    omega
  rw [e, whl_stop]
  · rfl
  · unfold rdC
    dsimp only
    rw [len_rng0 (by omega), decide_eq_false (Int.lt_irrefl n)]
    simp
theorem rounds_nil (hm : 1 ≤ most) : roundsM n [] b 0 most = ⟨[(0, ⟨rng 0 n⟩)], (n + b - 1) / b, ⟨[]⟩⟩ := by
  rw [first_round hn hb hm]
  have e : ((rng 0 n).filter fun x => match lastN [] ((n + b - 1) / b).toNat x with | some t => decide (x / b ≤ t) | none => false) = [] := by
    apply filter_none
    intro x _
    rw [last_nil]
  rw [e, whl_stop]
  · rfl
  · unfold rdC
    simp
theorem one_due {sheet : Int} {beat : Nat} (h0 : 0 ≤ sheet) (h1 : sheet < n) : ((rng 0 n).filter fun x => match lastN (List.replicate beat (⟨[]⟩ : Tp Int) ++ [⟨[sheet]⟩]) ((n + b - 1) / b).toNat x with | some t => decide (x / b ≤ t) | none => false) =
    if sheet / b ≤ (beat : Int) ∧ (beat : Int) < (n + b - 1) / b then [sheet] else [] := by
  by_cases h : sheet / b ≤ (beat : Int) ∧ (beat : Int) < (n + b - 1) / b
  · rw [if_pos h]
    refine filter_one h0 h1 ?_ fun x hx => ?_
    · rw [last_one, if_pos ⟨rfl, by omega⟩]
      exact decide_eq_true h.1
    · rw [last_one, if_neg fun q => hx q.1]
  · rw [if_neg h]
    apply filter_none
    intro x hx
    rw [last_one]
    by_cases q : x = sheet ∧ beat < ((n + b - 1) / b).toNat
    · rw [if_pos q]
      apply decide_eq_false
      rw [q.1]
      omega
    · rw [if_neg q]
theorem rounds_one1 {sheet : Int} {beat : Nat} (h0 : 0 ≤ sheet) (h1 : sheet < n) : roundsM n (List.replicate beat (⟨[]⟩ : Tp Int) ++ [⟨[sheet]⟩]) b 0 1 = ⟨[(0, ⟨rng 0 n⟩)], (n + b - 1) / b, ⟨if sheet / b ≤ (beat : Int) ∧ (beat : Int) < (n + b - 1) / b then [sheet] else []⟩⟩ := by
  rw [first_round hn hb (by omega), one_due hn hb h0 h1, whl_stop]
  · rfl
  · unfold rdC
    simp
theorem rounds_one2 {sheet : Int} {beat : Nat} (h0 : 0 ≤ sheet) (h1 : sheet < n) : roundsM n (List.replicate beat (⟨[]⟩ : Tp Int) ++ [⟨[sheet]⟩]) b 0 2 =
    if sheet / b ≤ (beat : Int) ∧ (beat : Int) < (n + b - 1) / b then ⟨[(0, ⟨rng 0 n⟩), ((n + b - 1) / b, ⟨[sheet]⟩)], (n + b - 1) / b + 1, ⟨[]⟩⟩ else ⟨[(0, ⟨rng 0 n⟩)], (n + b - 1) / b, ⟨[]⟩⟩ := by
  have hl := long_pos hn hb
  rw [first_round hn hb (by omega), one_due hn hb h0 h1]
  by_cases h : sheet / b ≤ (beat : Int) ∧ (beat : Int) < (n + b - 1) / b
  · rw [if_pos h, if_pos h]
    rw [show (2 : Int).toNat - 1 = 0 + 1 from rfl]
    have hone : ((([sheet] : List Int).length : Int) + b - 1) / b = 1 := by
      rw [show (([sheet] : List Int).length : Int) + b - 1 = b by simp; omega]
      exact Int.ediv_self (by omega)
    have hd : ∀ c : Dct Int, rdDue n (List.replicate beat (⟨[]⟩ : Tp Int) ++ [⟨[sheet]⟩]) ((enumI [sheet]).foldl (rdCop b ((n + b - 1) / b)) c) ((n + b - 1) / b + 1) = [] := by
      intro c
      rw [due_eq]
      apply filter_none
      intro x hx
      rw [last_one]
      by_cases q : x = sheet ∧ beat < ((n + b - 1) / b + 1).toNat
      · rw [if_pos q]
        apply decide_eq_false
        have := cop_at (b := b) (tick := (n + b - 1) / b) (xs := [sheet]) (d := c) (by simp) (i := 0) (x := sheet) rfl
        rw [q.1, dix_of this]
        have h0' : ((0 : Nat) : Int) / b = 0 := Int.zero_ediv b
        rw [h0']
        omega
      · rw [if_neg q]
    rw [whl_step (s' := ([(0, ⟨rng 0 n⟩), ((n + b - 1) / b, ⟨[sheet]⟩)], (enumI [sheet]).foldl (rdCop b ((n + b - 1) / b)) ((enumI (rng 0 n)).foldl (rdCop b 0) Dct.emp), (n + b - 1) / b + 1, []))]
    · rfl
    · unfold rdC
      simp
    · unfold rdB rdN
      dsimp only
      rw [hone, hd]
      rfl
  · rw [if_neg h, if_neg h, whl_stop]
    · rfl
    · unfold rdC
      simp
end
end GL

namespace GL
open PySem PySem.Spec PyProof.Rows L2
theorem lastN_lt10 (T : List (Tp Int)) (x : Int) : ∀ k : Nat, (lastN T k x).getD (-1) < k
  | 0 => by show (-1 : Int) < 0; omega
  | k + 1 => by
    rw [lastN]
    split
    · show (k : Int) < ((k + 1 : Nat) : Int); omega
    · have := lastN_lt10 T x k; omega
theorem lastW_lt {T : List (Tp Int)} {k x : Int} (h : 0 ≤ k) : lastW T k x < k := by
  have := lastN_lt10 T x k.toNat
  unfold lastW
  omega
theorem lastW_next {T : List (Tp Int)} {k x : Int} (h : 0 ≤ k) : lastW T (k + 1) x = if x ∈ (T.getD k.toNat ⟨[]⟩).l then k else lastW T k x := by
  unfold lastW
  rw [show (k + 1).toNat = k.toNat + 1 by omega, lastN]
  split
  · show ((k.toNat : Nat) : Int) = k; omega
  · rfl
/-- the sheets that are over there as they are now -/
structure Fr (T : List (Tp Int)) (fresh : Dct Bool) (cop : Dct Int) (beat : Int) : Prop where
  iff : ∀ x, (fresh.get? x).isSome = true ↔ ∃ c, cop.get? x = some c ∧ lastW T beat x < c
  le : ∀ x c, cop.get? x = some c → 0 ≤ c ∧ c ≤ beat
  ok : fresh.Ok 1000
theorem Fr.start (T : List (Tp Int)) : Fr T Dct.emp Dct.emp 0 := ⟨fun x => ⟨fun h => absurd h Bool.false_ne_true, fun ⟨c, h, _⟩ => (nomatch h)⟩, fun x c h => (nomatch h), Dct.Ok.emp⟩
theorem Fr.put {T : List (Tp Int)} {fresh : Dct Bool} {cop : Dct Int} {beat x : Int} (h : Fr T fresh cop beat) (h0 : 0 ≤ beat) (hx : 0 ≤ x ∧ x < 1000) : Fr T (fresh.put x true) (cop.put x beat) beat := by
  refine ⟨fun y => ?_, fun y c hc => ?_, h.ok.put _ hx⟩
  · rw [Dct.get?_put, Dct.get?_put]
    by_cases e : y = x
    · rw [if_pos e, if_pos e]
      exact ⟨fun _ => ⟨beat, rfl, lastW_lt h0⟩, fun _ => rfl⟩
    · rw [if_neg e, if_neg e]
      exact h.iff y
  · rw [Dct.get?_put] at hc
    by_cases e : y = x
    · rw [if_pos e] at hc
      have : beat = c := Option.some.inj hc
      omega
    · rw [if_neg e] at hc
      exact h.le y c hc
theorem get?_dels (x : Int) : ∀ (l : List Int) (d : Dct Bool), (l.foldl (fun f y => f.del y) d).get? x = if x ∈ l then none else d.get? x
  | [], d => by simp
  | y :: l, d => by
    rw [List.foldl_cons, get?_dels x l, Dct.get?_del]
    by_cases h : x ∈ l
    · rw [if_pos h, if_pos (List.mem_cons_of_mem _ h)]
    · rw [if_neg h]
      by_cases e : x = y
      · rw [if_pos e, if_pos (by rw [e]; exact List.mem_cons_self)]
      · rw [if_neg e, if_neg (fun q => (List.mem_cons.mp q).elim e h)]
theorem dels_ok : ∀ (l : List Int) {d : Dct Bool}, d.Ok 1000 → (l.foldl (fun f y => f.del y) d).Ok 1000
  | [], d, h => h
  | y :: l, d, h => dels_ok l (h.del y)
theorem Fr.row {T : List (Tp Int)} {fresh : Dct Bool} {cop : Dct Int} {beat : Int} (h : Fr T fresh cop beat) (h0 : 0 ≤ beat) : Fr T ((T.getD beat.toNat ⟨[]⟩).l.foldl (fun f y => f.del y) fresh) cop (beat + 1) := by
  refine ⟨fun y => ?_, fun y c hc => by have := h.le y c hc; omega, dels_ok _ h.ok⟩
  rw [get?_dels, lastW_next h0]
  by_cases e : y ∈ (T.getD beat.toNat ⟨[]⟩).l
  · rw [if_pos e, if_pos e]
    refine ⟨fun z => absurd z Bool.false_ne_true, fun ⟨c, hc, q⟩ => ?_⟩
    have := h.le y c hc
    omega
  · rw [if_neg e, if_neg e]
    exact h.iff y
theorem row_at {T : List (Tp Int)} {beat : Int} (h0 : 0 ≤ beat) : ix (T ++ (List.replicate (beat + 1).toNat [(⟨[]⟩ : Tp Int)]).flatten) beat = T.getD beat.toNat ⟨[]⟩ := by
  rw [flat_one]
  unfold ix
  rw [List.getD_eq_getElem?_getD, List.getD_eq_getElem?_getD]
  by_cases h : beat.toNat < T.length
  · rw [List.getElem?_append_left h]
    cases e : T[beat.toNat]? with
    | none => rw [List.getElem?_eq_none_iff] at e; omega
    | some t => rfl
  · rw [List.getElem?_append_right (by omega), List.getElem?_replicate, if_pos (by omega), List.getElem?_eq_none (by omega)]
    rfl
/-- within a beat: q of those that wait are copied -/
structure DuT (T : List (Tp Int)) (b tick : Int) (W : List Int) (cop0 : Dct Int) (beat : Int) (q : Nat) (fresh : Dct Bool) (waits : List Int) : Prop where
  w : waits = W.drop q
  f : Fr T fresh (((enumI W).take q).foldl (rdCop b tick) cop0) beat
theorem enum_take {W : List Int} {q : Nat} (h : q < W.length) : (enumI W).take (q + 1) = (enumI W).take q ++ [((q : Int), W[q])] := by
  rw [List.take_add_one]
  congr 1
  unfold enumI
  rw [List.getElem?_map, List.getElem?_zipIdx, List.getElem?_eq_getElem h]
  simp
theorem DuT.next {T : List (Tp Int)} {b tick : Int} {W : List Int} {cop0 : Dct Int} {beat : Int} {q : Nat} {fresh : Dct Bool} {waits : List Int} (I : DuT T b tick W cop0 beat q fresh waits) (hW : ∀ x ∈ W, 0 ≤ x ∧ x < 1000) (h0 : 0 ≤ beat) (hq : q < W.length) (hj : tick + (q : Int) / b = beat) : DuT T b tick W cop0 beat (q + 1) (fresh.put (ix waits 0) true) (waits.drop 1) := by
  have e : ix waits 0 = W[q] := by
    rw [I.w]
    unfold ix
    rw [List.getD_eq_getElem?_getD, show (0 : Int).toNat = 0 from rfl, List.getElem?_drop, Nat.add_zero, List.getElem?_eq_getElem hq]
    rfl
  refine ⟨by rw [I.w, List.drop_drop], ?_⟩
  rw [enum_take hq, List.foldl_append, List.foldl_cons, List.foldl_nil, e]
  show Fr T _ (Dct.put _ W[q] (tick + (q : Int) / b)) beat
  rw [hj]
  exact I.f.put h0 (hW _ (List.getElem_mem hq))
/-- between two beats -/
def DuI (T : List (Tp Int)) (b tick : Int) (W : List Int) (cop0 : Dct Int) (st : Dct Bool × Int × List Int) : Prop :=
  ∃ j p : Nat, st.2.1 = tick + j ∧ p ≤ W.length ∧ p ≤ j * b.toNat ∧ (p < W.length → p = j * b.toNat) ∧ (0 < j → (j - 1) * b.toNat < W.length) ∧ DuT T b tick W cop0 st.2.1 p st.1 st.2.2
theorem DuI.start {T : List (Tp Int)} {b tick : Int} {W : List Int} {cop0 : Dct Int} {fresh : Dct Bool} (h : Fr T fresh cop0 tick) : DuI T b tick W cop0 (fresh, tick, W) :=
  ⟨0, 0, by show tick = tick + ((0 : Nat) : Int); omega, Nat.zero_le _, by omega, fun _ => by omega, fun h => absurd h (by omega), ⟨rfl, h⟩⟩
theorem DuI.fin {T : List (Tp Int)} {b tick : Int} {W : List Int} {cop0 : Dct Int} {fresh : Dct Bool} {beat : Int} {waits : List Int} (I : DuI T b tick W cop0 (fresh, beat, waits)) (hb : 1 ≤ b) (hW : W ≠ []) (hw : waits = []) : beat = tick + ((W.length : Int) + b - 1) / b ∧ Fr T fresh ((enumI W).foldl (rdCop b tick) cop0) beat := by
  obtain ⟨j, p, e, h1, h2, h3, h4, h5⟩ := I
  dsimp only at e h5
  have hp : p = W.length := by
    have := h5.w
    rw [hw] at this
    have := congrArg List.length this
    rw [List.length_drop, List.length_nil] at this
    omega
  have hl : 0 < W.length := List.length_pos_iff.mpr hW
  have hj : 0 < j := Nat.pos_of_ne_zero fun z => by rw [z, Nat.zero_mul] at h2; omega
  have h6 := h4 hj
  have hbn : ((b.toNat : Nat) : Int) = b := by omega
  have a1 : ((W.length : Int) + b - 1) / b ≤ j := (ceil_le (by omega)).mpr (by
    rw [hp] at h2
    have : ((W.length : Nat) : Int) ≤ ((j * b.toNat : Nat) : Int) := by omega
    rw [Int.natCast_mul, hbn, Int.mul_comm] at this
    exact this)
  have a2 : ¬ ((W.length : Int) + b - 1) / b ≤ j - 1 := fun z => by
    have := (ceil_le (n := (W.length : Int)) (b := b) (j := (j : Int) - 1) (by omega)).mp z
    have h7 : (((j - 1) * b.toNat : Nat) : Int) < ((W.length : Nat) : Int) := by omega
    rw [Int.natCast_mul, hbn, Int.mul_comm, show ((j - 1 : Nat) : Int) = (j : Int) - 1 by omega] at h7
    omega
  refine ⟨by omega, ?_⟩
  have h8 := h5.f
  rw [hp, ← len_enumI, List.take_length] at h8
  exact h8
theorem DuI.step {T : List (Tp Int)} {b tick : Int} {W : List Int} {cop0 : Dct Int} {beat : Int} {j p m : Nat} {fresh : Dct Bool} {waits : List Int} (hb : 1 ≤ b) (h0 : 0 ≤ beat) (e : beat = tick + j) (hp : p < W.length) (hpj : p = j * b.toNat) (hm : (m : Int) = min b ((W.length - p : Nat) : Int)) (I : DuT T b tick W cop0 beat (p + m) fresh waits) :
    DuI T b tick W cop0 ((T.getD beat.toNat ⟨[]⟩).l.foldl (fun f y => f.del y) fresh, beat + 1, waits) := by
  have hs : (j + 1) * b.toNat = j * b.toNat + b.toNat := Nat.succ_mul j b.toNat
  refine ⟨j + 1, p + m, by show beat + 1 = tick + ((j + 1 : Nat) : Int); omega, by omega, by omega, fun z => by omega, fun _ => by rw [Nat.add_sub_cancel]; omega, ⟨I.w, I.f.row h0⟩⟩
theorem beat_at {j t : Nat} {b : Int} (hb : 1 ≤ b) (ht : (t : Int) < b) : ((j * b.toNat + t : Nat) : Int) / b = j := by
  have hbn : ((b.toNat : Nat) : Int) = b := by omega
  rw [Int.natCast_add, Int.natCast_mul, hbn, Int.add_comm, Int.add_mul_ediv_right _ _ (by omega), Int.ediv_eq_zero_of_lt (by omega) ht]
  omega
/-- between two rounds -/
def DoI (n : Int) (T : List (Tp Int)) (b s most : Int) (st : Dct Bool × List (Int × Tp Int) × Int × List Int) : Prop :=
  ∃ (m : Nat) (cop : Dct Int), roundsM n T b s most = whl (rdC most s) (rdB n T b) rdK m (st.2.1, cop, st.2.2.1, st.2.2.2) ∧ RdI n b most (st.2.1, cop, st.2.2.1, st.2.2.2) ∧ most ≤ st.2.1.length + m ∧ Fr T st.1 cop st.2.2.1 ∧ (st.2.1 = [] → st.2.2.2 ≠ [])
def dueC (most s : Int) (st : Dct Bool × List (Int × Tp Int) × Int × List Int) : Bool := decide (st.2.1 = []) || (decide ((st.2.1.length : Int) < most) && decide (s < (st.2.2.2.length : Int)))
theorem dueC_eq {most s : Int} {fresh : Dct Bool} {found : List (Int × Tp Int)} {cop : Dct Int} {beat : Int} {waits : List Int} (hm : 1 ≤ most) (hs : 0 ≤ s) (h : found = [] → waits ≠ []) : dueC most s (fresh, found, beat, waits) = rdC most s (found, cop, beat, waits) := by
  unfold dueC rdC
  dsimp only
  by_cases hf : found = []
  · have h1 := h hf
    rw [decide_eq_true hf, decide_eq_false h1, hf, decide_eq_true (show ((([] : List (Int × Tp Int)).length : Nat) : Int) < most by simp; omega)]
    rfl
  · rw [decide_eq_false hf, Bool.false_or, Bool.false_or]
    by_cases hw : waits = []
    · rw [decide_eq_true hw, hw, decide_eq_false (show ¬ s < ((([] : List Int).length : Nat) : Int) by simp; omega), Bool.and_false]
      rfl
    · rw [decide_eq_false hw]
      rfl
theorem DoI.start {n : Int} {T : List (Tp Int)} {b s most : Int} (hn : 1 ≤ n) (hm : 1 ≤ most) : DoI n T b s most (Dct.emp, [], 0, rng 0 n) :=
  ⟨most.toNat, Dct.emp, by unfold roundsM; rfl, RdI.start (by omega), by show most ≤ ((([] : List (Int × Tp Int)).length : Nat) : Int) + (most.toNat : Int); simp; omega, Fr.start T, fun _ z => by
    have := congrArg List.length z
    rw [len_rng] at this
    simp at this
    omega⟩
theorem due_law {n tick : Int} {T : List (Tp Int)} {fresh : Dct Bool} {cop : Dct Int} (h : Fr T fresh cop tick) (hc : ∀ x, 0 ≤ x → x < n → (cop.get? x).isSome = true) : (rng 0 n).filter (fun x => !(fresh.get? x).isSome) = rdDue n T cop tick := by
  unfold rdDue
  rw [List.map_id']
  apply List.filter_congr
  intro x hx
  have hx' := mem_rng.mp hx
  obtain ⟨c, hcx⟩ := Option.isSome_iff_exists.mp (hc x hx'.1 hx'.2)
  have hd : dix cop x = c := dix_of hcx
  have h1 := h.iff x
  have h2 := h.le x c hcx
  have h3 := lastG T tick x
  rw [hd]
  cases e : (writtenIn T 0 tick).get? x with
  | none =>
    rw [e] at h3
    have h4 : lastW T tick x = -1 := h3.symm
    have : (fresh.get? x).isSome = true := h1.mpr ⟨c, hcx, by omega⟩
    rw [this]
    rfl
  | some t =>
    rw [e] at h3
    have h4 : t = lastW T tick x := h3
    have h5 : dix (writtenIn T 0 tick) x = t := dix_of e
    rw [h5]
    by_cases q : t < c
    · rw [h1.mpr ⟨c, hcx, by omega⟩, decide_eq_false (by omega)]
      rfl
    · have : (fresh.get? x).isSome = false := Bool.eq_false_iff.mpr fun z => by
        obtain ⟨c', e1, e2⟩ := h1.mp z
        rw [hcx] at e1
        cases e1
        omega
      rw [this, decide_eq_true (by omega)]
      rfl
theorem DoI.next {n : Int} {T : List (Tp Int)} {b s most : Int} {fresh fresh' : Dct Bool} {found : List (Int × Tp Int)} {beat beat' : Int} {waits : List Int} {m : Nat} {cop : Dct Int} (P : RdP n T b most)
    (h1 : roundsM n T b s most = whl (rdC most s) (rdB n T b) rdK m (found, cop, beat, waits)) (h2 : RdI n b most (found, cop, beat, waits)) (h3 : most ≤ found.length + m) (hc : rdC most s (found, cop, beat, waits) = true)
    (hb : beat' = beat + ((waits.length : Int) + b - 1) / b) (hf : Fr T fresh' ((enumI waits).foldl (rdCop b beat) cop) beat') :
    DoI n T b s most (fresh', found ++ [(beat, ⟨waits⟩)], beat', (rng 0 n).filter (fun x => !(fresh'.get? x).isSome)) := by
  have hlt := rdC_lt hc
  dsimp only at hlt
  have e : rdN n T b (found, cop, beat, waits) = (found ++ [(beat, ⟨waits⟩)], (enumI waits).foldl (rdCop b beat) cop, beat', (rng 0 n).filter (fun x => !(fresh'.get? x).isSome)) := by
    rw [due_law hf fun x x0 x1 => h2.covered x0 x1]
    subst hb
    rfl
  cases m with
  | zero => omega
  | succ m =>
    refine ⟨m, (enumI waits).foldl (rdCop b beat) cop, ?_, ?_, ?_, hf, fun z => absurd z (by simp)⟩
    · have := whl_nx h1 hc rfl
      rw [e] at this
      exact this
    · have := h2.next P
      rw [e] at this
      exact this
    · show most ≤ (((found ++ [(beat, (⟨waits⟩ : Tp Int))]).length : Nat) : Int) + (m : Int)
      rw [List.length_append, List.length_singleton]
      omega
theorem k10_ix (z : Spr) : (0 : Int) ≤ ix ([30, 30, 30, 240] : List Int) (lawCup z 4).1 ∧ ix ([30, 30, 30, 240] : List Int) (lawCup z 4).1 ≤ 240 := ix_all (xs := ([30, 30, 30, 240] : List Int)) (P := fun y : Int => 0 ≤ y ∧ y ≤ 240) (by decide) (cup_bd z (m := 4) (by decide))
theorem k10_most (z : Spr) : (1 : Int) ≤ ix ([1, 2, 3, 20] : List Int) (lawCup z 4).1 ∧ ix ([1, 2, 3, 20] : List Int) (lawCup z 4).1 ≤ 20 := ix_all (xs := ([1, 2, 3, 20] : List Int)) (P := fun y : Int => 1 ≤ y ∧ y ≤ 20) (by decide) (cup_bd z (m := 4) (by decide))
end GL

namespace GL
open PySem PySem.Spec PyProof.Rows L2
variable {C : Addr}
/-! ### a carried program goes as the run does -/
theorem get?_delL (x : Int) (l : List Int) (d : Dct Bool) : (l.foldl Dct.del d).get? x = if x ∈ l then none else d.get? x := get?_dels x l d
def NoLack (z : Car C) : Prop := ∀ p, (z.absent.get? p).isSome = false
theorem noLack_emp {z : Car C} (h : z.absent.l = []) : NoLack z := fun p => by
  unfold Dct.get?
  rw [h]
  rfl
theorem noLack_lks {z : Car C} (h : NoLack z) : lksM z = [] := by
  unfold lksM
  split
  · rfl
  · rw [List.filter_eq_nil_iff]
    intro p _
    rw [h p]
    decide
theorem tickC_goes {z : Car C} (h0 : z.still = false) (h1 : lksM z = []) : tickC z = (⟨(tickM z.g z.st z.wait).b, [(tickM z.g z.st z.wait).c]⟩, wentM z (tickM z.g z.st z.wait)) := (tick_end h0 h1 rfl rfl).symm
theorem tickC_still {z : Car C} (h0 : z.still = true) : tickC z = (⟨Str.ofString "still", []⟩, z) := by
  unfold tickC
  rw [if_pos h0]
theorem tickC_lacks {z : Car C} (h0 : z.still = false) (h1 : lksM z ≠ []) : tickC z = (⟨Str.ofString "lacks", [some (ix (lksM z) 0)]⟩, z) := (tick_lacks h0 rfl h1).symm
/-- so many ticks of the run are done, letters up to av lie there -/
structure CarRun (g : Prog) (s : Stand) (l : Lets) (t av : Int) (z : Car C) : Prop where
  gg : z.g = g
  st : z.st = (runF g s l (rng 0 t)).2.1
  wait : z.wait = (availM l av).drop (runF g s l (rng 0 t)).1.toNat
  done : z.done = t
  sl : (z.said.length : Int) ≤ t
theorem CarRun.ok {g : Prog} {s : Stand} {l : Lets} {t av : Int} {z : Car C} (h : CarRun g s l t av z) (hg : ProgOk g) (hs : StandOk g s) (hl : LetsOk g l) (ht : t ≤ 100000) : CarOk z := by
  obtain ⟨h1, h2, h3, h4, h5⟩ := h
  have ha := avail_ok hl av (runF g s l (rng 0 t)).1.toNat
  exact ⟨by rw [h1]; exact hg, by rw [h1, h2]; exact (run_ok hg hs hl _).1, by rw [h1, h3]; exact ha.1, by rw [h3]; exact ha.2, by omega⟩
theorem run_next {g : Prog} {s : Stand} {l : Lets} {t : Int} (ht : 0 ≤ t) : runF g s l (rng 0 (t + 1)) = runStep g l (runF g s l (rng 0 t)) t := by rw [rng_succ ht, run_snoc]
theorem CarRun.went {g : Prog} {s : Stand} {l : Lets} {t : Int} {z : Car C} (h : CarRun g s l t t z) (ht : 0 ≤ t) (h0 : ((runF g s l (rng 0 t)).1) ≥ 0) : CarRun g s l (t + 1) t (wentM z (tickM z.g z.st z.wait)) := by
  obtain ⟨h1, h2, h3, h4, h5⟩ := h
  have e : tickM z.g z.st z.wait = tickM g (runF g s l (rng 0 t)).2.1 ((availM l t).drop (runF g s l (rng 0 t)).1.toNat) := by rw [h1, h2, h3]
  refine ⟨h1, ?_, ?_, ?_, ?_⟩
  · rw [run_next ht, runStep_stand, ← e]
    rfl
  · rw [run_next ht, runStep_used, ← e]
    show (if decide ((tickM z.g z.st z.wait).b = Str.ofString "took") = true then z.wait.drop 1 else z.wait) = _
    split
    · rw [h3, List.drop_drop]
      congr 1
      omega
    · rw [Int.add_zero, h3]
  · show z.done + 1 = t + 1
    rw [h4]
  · show ((if decide ((tickM z.g z.st z.wait).b = Str.ofString "said") = true then z.said ++ [(tickM z.g z.st z.wait).c.getD default] else z.said).length : Int) ≤ t + 1
    split
    · rw [List.length_append]
      show ((z.said.length + 1 : Nat) : Int) ≤ t + 1
      omega
    · omega
/-! ### what is fresh over there -/
def lastC (cps : List (Int × Int)) (p : Int) : Option Int := ((cps.filter fun c => decide (c.2 = p)).map (·.1)).getLast?
def freshB (cps : List (Int × Int)) (tou : Tou) (p : Int) : Bool := match lastC cps p with
  | none => false
  | some k => ((rng k tou.length).filter fun j => decide (p ∈ (ix tou j).2.l)).isEmpty
theorem lastC_same {cps : List (Int × Int)} {t p : Int} : lastC (cps ++ [(t, p)]) p = some t := by
  unfold lastC
  rw [List.filter_append, List.filter_cons, if_pos (by simp), List.filter_nil, List.map_append]
  simp
theorem lastC_other {cps : List (Int × Int)} {t p q : Int} (h : p ≠ q) : lastC (cps ++ [(t, p)]) q = lastC cps q := by
  unfold lastC
  rw [List.filter_append, List.filter_cons, if_neg (by simp [h]), List.filter_nil, List.append_nil]
theorem lastC_mem {cps : List (Int × Int)} {p k : Int} (h : lastC cps p = some k) : (k, p) ∈ cps := by
  unfold lastC at h
  have := List.mem_of_getLast? h
  obtain ⟨c, hc, e⟩ := List.mem_map.mp this
  have h2 := List.mem_filter.mp hc
  have e2 : c.2 = p := by simpa using h2.2
  rw [← e, ← e2]
  exact h2.1
theorem fresh_copy {cps : List (Int × Int)} {tou : Tou} {t p q : Int} (ht : t = tou.length) : freshB (cps ++ [(t, p)]) tou q = (decide (q = p) || freshB cps tou q) := by
  by_cases e : q = p
  · subst e
    unfold freshB
    rw [lastC_same, ht]
    dsimp only
    rw [rng_nil (Int.le_refl _)]
    simp
  · unfold freshB
    rw [lastC_other (fun z => e z.symm), decide_eq_false e]
    rfl
theorem fresh_tick {cps : List (Int × Int)} {tou : Tou} {x : Tp Int × Tp Int} {p : Int} (h : ∀ c ∈ cps, 0 ≤ c.1 ∧ c.1 ≤ tou.length) : freshB cps (tou ++ [x]) p = (freshB cps tou p && !decide (p ∈ x.2.l)) := by
  unfold freshB
  cases e : lastC cps p with
  | none => rfl
  | some k =>
    have hk := h _ (lastC_mem e)
    dsimp only at hk ⊢
    rw [List.length_append, show ((tou.length + [x].length : Nat) : Int) = (tou.length : Int) + 1 by simp, rng_succ hk.2, List.filter_append]
    have e1 : (rng k tou.length).filter (fun j => decide (p ∈ (ix (tou ++ [x]) j).2.l)) = (rng k tou.length).filter (fun j => decide (p ∈ (ix tou j).2.l)) := by
      refine List.filter_congr fun j hj => ?_
      have hj' := mem_rng.mp hj
      unfold ix
      rw [List.getD_eq_getElem?_getD, List.getD_eq_getElem?_getD, List.getElem?_append_left (by omega)]
    have e2 : ix (tou ++ [x]) (tou.length : Int) = x := by
      unfold ix
      rw [List.getD_eq_getElem?_getD, Int.toNat_natCast, List.getElem?_append_right (Nat.le_refl _), Nat.sub_self]
      rfl
    rw [e1]
    by_cases c : p ∈ x.2.l
    · rw [List.filter_cons, e2, if_pos (by simpa using c), decide_eq_true c]
      simp
    · rw [List.filter_cons, e2, if_neg (by simpa using c), decide_eq_false c]
      simp
/-- a carrying goes on -/
structure Going (h : Int) (cps : List (Int × Int)) (tou : Tou) (z : Car C) : Prop where
  goal : z.goal = some h
  still : z.still = false
  ab : z.absent.l = []
  made : z.made = cps.length
  fr : ∀ p, (z.fresh.get? p).isSome = freshB cps tou p
  fl : z.fresh.l.length ≤ cps.length
theorem Going.copy {h : Int} {cps : List (Int × Int)} {tou : Tou} {z : Car C} {t p : Int} (k : Going h cps tou z) (ht : t = tou.length) : Going h (cps ++ [(t, p)]) tou (copyC z p) := by
  obtain ⟨h1, h2, h3, h4, h5, h6⟩ := k
  unfold copyC
  refine ⟨h1, h2, h3, ?_, fun q => ?_, ?_⟩
  · show z.made + 1 = _
    rw [h4, List.length_append]
    simp
  · show ((z.fresh.put p true).get? q).isSome = _
    rw [Dct.get?_put, fresh_copy ht, ← h5 q]
    by_cases e : q = p
    · rw [if_pos e, decide_eq_true e]; rfl
    · rw [if_neg e, decide_eq_false e]; rfl
  · have := put_len (d := z.fresh) (k := p) (x := true)
    rw [List.length_append]
    show (z.fresh.put p true).l.length ≤ cps.length + 1
    omega
theorem dels_len : ∀ (l : List Int) (d : Dct Bool), (l.foldl Dct.del d).l.length ≤ d.l.length
  | [], d => Nat.le_refl _
  | p :: l, d => Nat.le_trans (dels_len l (d.del p)) del_len
theorem Going.went {h : Int} {cps : List (Int × Int)} {tou : Tou} {z : Car C} {t : TickR} (k : Going h cps tou z) (hc : ∀ c ∈ cps, 0 ≤ c.1 ∧ c.1 ≤ tou.length) : Going h cps (tou ++ [(t.d, t.e)]) (wentM z t) := by
  obtain ⟨h1, h2, h3, h4, h5, h6⟩ := k
  refine ⟨h1, h2, ?_, h4, fun q => ?_, ?_⟩
  · show (t.e.l.foldl Dct.del z.absent).l = []
    have := dels_len t.e.l z.absent
    rw [h3] at this
    exact List.eq_nil_of_length_eq_zero (by simpa using this)
  · show ((t.e.l.foldl Dct.del z.fresh).get? q).isSome = _
    rw [get?_delL, fresh_tick hc, ← h5 q]
    by_cases e : q ∈ t.e.l
    · rw [if_pos e, decide_eq_true e]; simp
    · rw [if_neg e, decide_eq_false e]; simp
  · exact Nat.le_trans (dels_len _ _) h6
theorem run_tou {g : Prog} {s : Stand} {l : Lets} {t : Int} (ht : 0 ≤ t) : (runF g s l (rng 0 (t + 1))).2.2.2 = (runF g s l (rng 0 t)).2.2.2 ++ [((tickM g (runF g s l (rng 0 t)).2.1 ((availM l t).drop (runF g s l (rng 0 t)).1.toNat)).d, (tickM g (runF g s l (rng 0 t)).2.1 ((availM l t).drop (runF g s l (rng 0 t)).1.toNat)).e)] := by
  rw [run_next ht]
  unfold runStep
  rfl
theorem tou_lenI {g : Prog} {s : Stand} {l : Lets} {t : Int} (ht : 0 ≤ t) : ((runF g s l (rng 0 t)).2.2.2.length : Int) = t := by
  rw [(run_len _).1, len_rng]
  omega
/-- a tick of a carrying -/
theorem go_tick {g : Prog} {s : Stand} {l : Lets} {t h : Int} {cps : List (Int × Int)} {z : Car C} (hs : StandOk g s) (hg : ProgOk g) (hl : LetsOk g l) (ht : 0 ≤ t) (k1 : CarRun g s l t t z) (k2 : Going h cps (runF g s l (rng 0 t)).2.2.2 z) (hc : ∀ c ∈ cps, 0 ≤ c.1 ∧ c.1 ≤ t) :
    CarRun g s l (t + 1) t (tickC z).2 ∧ Going h cps (runF g s l (rng 0 (t + 1))).2.2.2 (tickC z).2 ∧ (tickC z).2.houses = z.houses ∧ (tickC z).2.place = z.place := by
  rw [tickC_goes k2.still (noLack_lks (noLack_emp k2.ab))]
  have e : tickM z.g z.st z.wait = tickM g (runF g s l (rng 0 t)).2.1 ((availM l t).drop (runF g s l (rng 0 t)).1.toNat) := by rw [k1.gg, k1.st, k1.wait]
  refine ⟨k1.went ht (run_ok hg hs hl _).2, ?_, rfl, rfl⟩
  rw [run_tou ht, ← e]
  refine k2.went fun c h => ?_
  have h1 := hc c h
  have h2 := tou_lenI (g := g) (s := s) (l := l) ht
  omega
theorem lf_eq {z : Car C} {cps : List (Int × Int)} {tou : Tou} {h : Int} (k : Going h cps tou z) : lfM z = (rng 0 z.g.a).filter fun p => !freshB cps tou p := by
  unfold lfM
  exact List.filter_congr fun p _ => by rw [k.fr p]
end GL

/-! Methods and defs that may refuse, over an owned thing that may come to stand elsewhere; a list's count of flat things. -/
namespace L2
open PySem PySem.Spec PyProof.Rows
section
variable {X : Cx}
/-- o.m(..), what is raised wished for at the caller's slots -/
def tMethW (C : Addr) (m : Str) (sp : Sp) (E : St → XK) (ta : TE) (t : TA) : TE := fun σ H Q => ta σ H fun x H1 => ∃ a dx fs, x = .ref a ∧ H1 a = some (.ins C dx fs) ∧ fs.lookup m = none ∧ t σ H1 fun vs H2 => sp (x :: vs) H2 Q (E σ)
theorem pe_methW {CX : CXT} {C f : Addr} {k : Nat} {m : Str} {fd : FuncData} {ps : List Str} {sp : Sp} {E : St → XK} {o e : Expr} {es : List Expr} {ta : TE} {t : TA} {apos pos : Pos} {pl : Sem Bool} (he : PE X o ta) (c : Cls X.K C) (hm : Meth X.K C m f)
    (F : FnOk X.prog X.w X.K X.mg X.base CX k f fd ps sp) (hr : Room k X.A) (hb : Binds X.K fd ps []) (hx : ∀ σ, PassesAt CX X σ (E σ)) (ha : PA X (e :: es) t)
    (hst : starEach (e :: es) X.env = (false, eval e X.env) :: starEach es X.env := by rfl) (hpl : (backTo pos (starEach es X.env)).any (·.1) = false := by rfl)
    (ht : eval (.Call (.Attribute o m apos) (e :: es) [] pos) X.env = (do
      let ov ← eval o X.env
      standAt apos.atName
      let (f, first) ← holding [ov] (getMethod ov m pl)
      callWith pos f first (backTo pos (starEach (e :: es) X.env)) (backToKw pos (keywordEach [] X.env))) := by rfl) :
    PE X (.Call (.Attribute o m apos) (e :: es) [] pos) (tMethW C m sp E ta t) := ⟨fun pins s σ H Q I h => by
  refine PySem.W.methodCall_KW (pl := pl) (thn (he.run pins s σ H _ I h) fun u s1 ⟨x, H1, I1, rx, a, dx, fs, ex, ea, l, q⟩ => ?_) ht
  subst ex
  cases rx
  refine getmeth_ok I1 ea c hm l (PySem.W.callWith_K (first := [.ref a]) (h₀ := s1.heap) I1.kIn hm.kp (thn (ha.run pos pins s1 σ H1 _ I1 q) fun us s2 ⟨vs, H2, I2, r2, q2⟩ => ⟨I2.kIn, ?_⟩) hst hpl)
  exact run_fnS (vs := .ref a :: vs) F hr hb (hx σ) I2 (.cons rfl r2) q2⟩
theorem pe_methW0 {CX : CXT} {C f : Addr} {k : Nat} {m : Str} {fd : FuncData} {ps : List Str} {sp : Sp} {E : St → XK} {o : Expr} {ta : TE} {apos pos : Pos} {pl : Sem Bool} (he : PE X o ta) (c : Cls X.K C) (hm : Meth X.K C m f)
    (F : FnOk X.prog X.w X.K X.mg X.base CX k f fd ps sp) (hr : Room k X.A) (hb : Binds X.K fd ps []) (hx : ∀ σ, PassesAt CX X σ (E σ))
    (ht : eval (.Call (.Attribute o m apos) [] [] pos) X.env = (do
      let ov ← eval o X.env
      standAt apos.atName
      let (f, first) ← holding [ov] (getMethod ov m pl)
      callWith pos f first (backTo pos (starEach [] X.env)) (backToKw pos (keywordEach [] X.env))) := by rfl) :
    PE X (.Call (.Attribute o m apos) [] [] pos) (tMethW C m sp E ta tNil) := ⟨fun pins s σ H Q I h => by
  refine PySem.W.methodCall_KW (pl := pl) (thn (he.run pins s σ H _ I h) fun u s1 ⟨x, H1, I1, rx, a, dx, fs, ex, ea, l, q⟩ => ?_) ht
  subst ex
  cases rx
  exact getmeth_ok I1 ea c hm l (PySem.W.callWith_K0 (first := [.ref a]) I1.kIn hm.kp (run_fnS (us := [.ref a]) (vs := [.ref a]) F hr hb (hx σ) I1 (.cons rfl .nil) q))⟩
/-- xs.count(y), flat things -/
def rCntV (K : PySem.W.Frag) : V → List V → Hp → VK → Prop := fun x xs H Q => ∃ (p : Addr) (ys : List V) (y : V), x = .ref p ∧ xs = [y] ∧ SqL K H p ys ∧ flatV y = true ∧ ys.all flatV = true ∧ Q (.int ((ys.countP fun z => eqV z y) : Nat)) H
theorem count_vals {y : V} : ∀ {ys : List V} {its : List Value}, Vals ys its → ys.all flatV = true → its.countP (eqU y) = ys.countP fun z => eqV z y
  | [], _, .nil, _ => rfl
  | z :: ys, _, .cons r rt, h => by
    rw [List.all_cons, Bool.and_eq_true] at h
    rw [List.countP_cons, List.countP_cons, count_vals rt h.2, eqU_of r h.1]
theorem mt_countV : MtR X "list.count" (rCntV X.K) := fun pins s σ H x xs v us Q I rx rxs h => by
  obtain ⟨p, ys, y, rfl, rfl, hs, fy, fys, q⟩ := h
  cases rx
  cases rxs with
  | cons ry rt =>
    rename_i uy ut
    cases rt
    obtain ⟨its, rv, ⟨⟨oc, od, data, sl⟩, n, e1, e2, e3, e4⟩, _⟩ := I.list hs
    simp only at e2 e4
    subst e2 e4
    refine call_meets PySem.F.slot_list_count ⟨_, e1, rfl⟩ PySem.F.entry_list_count (PySem.F.args_list_count_2 _ _) (SeqAt.list_countAt p its.toArray n od sl uy (eqU y)) ⟨e1, fun u' hu' => mem_eqAt ry fy rv fys u' (by simpa using hu'), ?_⟩
    refine ⟨.int ((ys.countP fun z => eqV z y) : Nat), H, I.tok _, ⟨s.toks, ?_⟩, q⟩
    show Value.int ((its.toArray.toList.countP (eqU y) : Nat) : Int) s.toks = _
    rw [List.toList_toArray, count_vals rv fys]
end
end L2
namespace GL
open PySem PySem.Spec PyProof.Rows L2
structure MCalX (P : Program) (w : World) (K : Fg) (mg : Str → Option Value) (base : Heap) (k : Nat) (C : Addr) (m : Str) (ps : List Str) (sp : Sp) : Prop where
  ex : ∃ (f : Addr) (fd : FuncData), Meth K C m f ∧ FnOk P w K mg base (L2.CX P w) k f fd ps sp ∧ Binds K fd ps []
theorem pe_mcalX {X : Cx} {j k : Nat} {C : Addr} {m : Str} {ps : List Str} {sp : Sp} {o e : Expr} {es : List Expr} {ta : TE} {t : TA} {apos pos : Pos} {pl : Sem Bool} {W : WX} (c : MCalX X.prog X.w X.K X.mg X.base k C m ps sp) (cl : Cls X.K C) (tk : Takes X W) (hr : Room j X.A) (hk : k ≤ j) (he : PE X o ta) (ha : PA X (e :: es) t)
    (hst : starEach (e :: es) X.env = (false, eval e X.env) :: starEach es X.env := by rfl) (hpl : (backTo pos (starEach es X.env)).any (·.1) = false := by rfl)
    (ht : eval (.Call (.Attribute o m apos) (e :: es) [] pos) X.env = (do
      let ov ← eval o X.env
      standAt apos.atName
      let (f, first) ← holding [ov] (getMethod ov m pl)
      callWith pos f first (backTo pos (starEach (e :: es) X.env)) (backToKw pos (keywordEach [] X.env))) := by rfl) :
    PE X (.Call (.Attribute o m apos) (e :: es) [] pos) (tMethW C m sp (WE W) ta t) := by
  obtain ⟨f, fd, a, b, d⟩ := c.ex
  exact pe_methW (pl := pl) he cl a b (hr.mono hk) d (fun σ => passAt tk σ) ha hst hpl ht
theorem pe_mcalX0 {X : Cx} {j k : Nat} {C : Addr} {m : Str} {ps : List Str} {sp : Sp} {o : Expr} {ta : TE} {apos pos : Pos} {pl : Sem Bool} {W : WX} (c : MCalX X.prog X.w X.K X.mg X.base k C m ps sp) (cl : Cls X.K C) (tk : Takes X W) (hr : Room j X.A) (hk : k ≤ j) (he : PE X o ta)
    (ht : eval (.Call (.Attribute o m apos) [] [] pos) X.env = (do
      let ov ← eval o X.env
      standAt apos.atName
      let (f, first) ← holding [ov] (getMethod ov m pl)
      callWith pos f first (backTo pos (starEach [] X.env)) (backToKw pos (keywordEach [] X.env))) := by rfl) :
    PE X (.Call (.Attribute o m apos) [] [] pos) (tMethW C m sp (WE W) ta tNil) := by
  obtain ⟨f, fd, a, b, d⟩ := c.ex
  exact pe_methW0 (pl := pl) he cl a b (hr.mono hk) d (fun σ => passAt tk σ) ht
/-- as spO, or a refusal, which changes nothing -/
def spOX {ω α β : Type} [Own ω] [PyA α] [Py β] (K : Fg) (Y : XC → Addr) (R : ω → α → β → ω → Prop) (Rf : ω → α → XC → Prop) (pre : ω → α → Prop) : Sp := fun vs H Q E => ∃ (S : Hp) (v0 : V) (ws : List V) (ps : List Addr) (z : ω) (a : α), vs = v0 :: ws ∧ Same S H ∧ Own.own K S H v0 ps z ∧
  (∀ p ∈ ps, S p = none ∧ ∃ o, H p = some o) ∧ PyA.rep K S ws a ∧ pre z a ∧
  (∀ v S' H' ps' y z', R z a y z' → Same S S' → Same S' H' → (∀ p o, p ∉ ps → H p = some o → H' p = some o) → (∀ p o, p ∉ ps → H p = some o → S' p = S p) →
    (∀ p ∈ ps', S' p = none ∧ (∃ o, H' p = some o) ∧ (p ∈ ps ∨ H p = none)) → Own.own K S' H' v0 ps' z' → Py.rep K S' v y → Q v H') ∧
  ∀ e S' H', Rf z a e → Same S S' → Same S' H' → (∀ p o, p ∉ ps → H p = some o → H' p = some o) → (∀ p o, p ∉ ps → H p = some o → S' p = S p) → (∀ p ∈ ps, S' p = none ∧ ∃ o, H' p = some o) → Own.own K S' H' v0 ps z → E (.ref (Y e)) none H'
section
variable {C : Addr} {K : Fg} {B S0 S1 S S' D : Hp} {σ : L2.St} {H H' : Hp} {F : Nat → List Addr} {G G' G1 G2 : List Sl} {ta te : TE} {i j : Nat} {t : TA} {u : TS} {E : Ends} {Ex : XK} {m : Str} {Y : XC → Addr} {W : WX}
variable {α β : Type} [PyA α] [Py β] {z z1 : Car C} {a : α} {R : Car C → α → β → Car C → Prop} {Rf : Car C → α → XC → Prop} {pre : Car C → α → Prop}
/-- what such a call comes to: a value at hand, or a refusal -/
theorem callOX {Q : VK} {EE : XK} {vs : List V} (k1 : Kn K B S0 S1 σ H F G1) (h1 : σ[i]? = some (some (.ref z.a))) (ez : z1.a = z.a) (hi1 : G1[i]? = some (.ow z1)) (r1 : PyA.rep K S1 vs a) (hp : pre z1 a)
    (ok : ∀ y z', R z1 a y z' → ∀ v S' H', Same S1 S' → Kn K B S0 S' σ H' (upF F i z'.fp) (G1.set i (.ow z')) → Py.rep K S' v y → Q v H') (er : ∀ e, Rf z1 a e → ∀ S' H', Kn K B S0 S' σ H' F G1 → EE (.ref (Y e)) none H') : spOX K Y R Rf pre (.ref z.a :: vs) H Q EE := by
  obtain ⟨v1, h3, h4⟩ := k1.ow hi1
  rw [h1] at h3
  cases h3
  refine ⟨S1, .ref z.a, vs, F i, z1, a, rfl, k1.sub, h4, fun p hp => ⟨(k1.off i p hp).1, (k1.off i p hp).2.2⟩, r1, hp, fun v S2 H2 ps' y z' hR s1 s2 hk hc hl ho r2 => ?_, fun e S2 H2 hf s1 s2 hk hc hl ho => ?_⟩
  · have ep : ps' = z'.fp := ho.2.1
    subst ep
    exact ok y z' hR v S2 H2 s1 (k1.moved hi1 h1 s1 s2 hk hc hl ho) r2
  · have k2 := k1.moved (z' := z1) hi1 h1 s1 s2 hk hc (fun p hp => ⟨(hl p hp).1, (hl p hp).2, .inl hp⟩) ho
    have eF : upF F i (F i) = F := by
      funext n
      by_cases c : n = i
      · rw [c, upF_self]
      · rw [upF_ne c]
    have eG : G1.set i (.ow z1) = G1 := by
      apply List.ext_getElem?
      intro n
      by_cases c : i = n
      · subst c
        rw [List.getElem?_set_self (List.getElem?_eq_some_iff.mp hi1).1, hi1]
      · rw [List.getElem?_set_ne c]
    rw [eF, eG] at k2
    exact er e hf S2 H2 k2
theorem q_methX (hm : m ∉ carK) (hi : G[i]? = some (.ow z)) (ha : EvA K t G a G) (hp : pre z a) (ok : ∀ y z', R z a y z' → At K B S0 (u E) (G.set i (.ow z'))) (er : ∀ e, Rf z a e → At K B S0 (W (.ref (Y e)) none) G) :
    At K B S0 (tSeq (tDrop (tMethW C m (spOX K Y R Rf pre) (WE W) (tVar i) t)) u E) G := fun S σ H F kn => by
  obtain ⟨h1, h2, dx, pv, sv, kf, kb, c⟩ := car_at kn hi
  exact ⟨.ref z.a, h1, z.a, dx, _, rfl, c.ob, look_none hm, ha B S0 S σ H F kn _ fun vs S1 H1 e1 k1 r1 => callOX k1 h1 rfl hi r1 hp (fun y z' hR v S' H' s k r => ok y z' hR S' σ H' _ k) fun e hf S' H' k => er e hf S' σ H' F k⟩
theorem q_retMX (hm : m ∉ carK) (hi : G[i]? = some (.ow z)) (ha : EvA K t G a G) (hp : pre z a) (ok : ∀ y z', R z a y z' → RT K B S0 E.rt y (G.set i (.ow z'))) (er : ∀ e, Rf z a e → At K B S0 (W (.ref (Y e)) none) G) :
    At K B S0 (tSeq (tRet (tMethW C m (spOX K Y R Rf pre) (WE W) (tVar i) t)) u E) G := fun S σ H F kn => by
  obtain ⟨h1, h2, dx, pv, sv, kf, kb, c⟩ := car_at kn hi
  exact ⟨.ref z.a, h1, z.a, dx, _, rfl, c.ob, look_none hm, ha B S0 S σ H F kn _ fun vs S1 H1 e1 k1 r1 => callOX k1 h1 rfl hi r1 hp (fun y z' hR v S' H' s k r => ok y z' hR S' σ H' _ v k r) fun e hf S' H' k => er e hf S' σ H' F k⟩
theorem q_setMX (l : Nat) (hm : m ∉ carK) (hi : G[i]? = some (.ow z)) (ha : EvA K t G a G) (hp : pre z a) (hl : ∀ z' : Car C, ((G.set i (.ow z'))[l]?).isSome = true) (ok : ∀ y z', R z a y z' → At K B S0 (u E) ((G.set i (.ow z')).set l (.im y))) (er : ∀ e, Rf z a e → At K B S0 (W (.ref (Y e)) none) G) :
    At K B S0 (tSeq (tAsg (tMethW C m (spOX K Y R Rf pre) (WE W) (tVar i) t) (gName l)) u E) G := fun S σ H F kn => by
  obtain ⟨h1, h2, dx, pv, sv, kf, kb, c⟩ := car_at kn hi
  exact ⟨.ref z.a, h1, z.a, dx, _, rfl, c.ob, look_none hm, ha B S0 S σ H F kn _ fun vs S1 H1 e1 k1 r1 => callOX k1 h1 rfl hi r1 hp (fun y z' hR v S' H' s k r => ok y z' hR S' _ H' _ (k.set r (hl z'))) fun e hf S' H' k => er e hf S' σ H' F k⟩
/-! defs over such a thing -/
theorem q_setOX (l : Nat) (hi : G[i]? = some (.ow z)) (ha : EvA K t G a G) (hp : pre z a) (hl : ∀ z' : Car C, ((G.set i (.ow z'))[l]?).isSome = true) (ok : ∀ y z', R z a y z' → At K B S0 (u E) ((G.set i (.ow z')).set l (.im y))) (er : ∀ e, Rf z a e → At K B S0 (W (.ref (Y e)) none) G) :
    At K B S0 (tSeq (tAsg (tCallS (spOX K Y R Rf pre) (WE W) (tCons (tVar i) t)) (gName l)) u E) G := fun S σ H F kn => by
  obtain ⟨h1, h2, dx, pv, sv, kf, kb, c⟩ := car_at kn hi
  exact ⟨.ref z.a, h1, ha B S0 S σ H F kn _ fun vs S1 H1 e1 k1 r1 => callOX k1 h1 rfl hi r1 hp (fun y z' hR v S' H' s k r => ok y z' hR S' _ H' _ (k.set r (hl z'))) fun e hf S' H' k => er e hf S' σ H' F k⟩
theorem q_setO (l : Nat) (hi : G[i]? = some (.ow z)) (ha : EvA K t G a G) (hp : pre z a) (hl : ∀ z' : Car C, ((G.set i (.ow z'))[l]?).isSome = true) (ok : ∀ y z', R z a y z' → At K B S0 (u E) ((G.set i (.ow z')).set l (.im y))) :
    At K B S0 (tSeq (tAsg (tCall (spO K R pre) [] Ex (tCons (tVar i) t)) (gName l)) u E) G := fun S σ H F kn => by
  obtain ⟨h1, h2, dx, pv, sv, kf, kb, c⟩ := car_at kn hi
  refine ⟨.ref z.a, h1, ha B S0 S σ H F kn _ fun vs S1 H1 e1 k1 r1 => ?_⟩
  show spO K R pre (.ref z.a :: vs ++ []) H1 _ Ex
  rw [List.append_nil]
  obtain ⟨v1, h3, h4⟩ := k1.ow hi
  rw [h1] at h3
  cases h3
  exact ⟨S1, .ref z.a, vs, F i, z, a, rfl, k1.sub, h4, fun p hp => ⟨(k1.off i p hp).1, (k1.off i p hp).2.2⟩, r1, hp, fun v S2 H2 ps' y z' hR s1 s2 hk hc hl' ho r2 => ok y z' hR S2 _ H2 _ ((k1.moved hi h1 s1 s2 hk hc hl' ho).set r2 (hl z'))⟩
end
section
variable {P : Program} {w : World} {K : Fg} {mg : Str → Option Value} {base : Heap} {α β : Type} [Sls α] [Py β] {C : Addr} {Y : XC → Addr}
/-- from a body to such a promise -/
theorem body_spOX {N : List Str} {R : Car C → α → β → Car C → Prop} {Rf : Car C → α → XC → Prop} {pre : Car C → α → Prop} {t : TS} {H : Hp} {vs : List V} {Q : VK} {E : XK} (sp : spOX K Y R Rf pre vs H Q E)
    (h2 : ∀ (z : Car C) (a : α), pre z a → ∀ (B S0 : Hp) (Q : VK), (∀ (G' : List Sl) y (z' : Car C), G'[0]? = some (.ow z') → z'.a = z.a → R z a y z' → RT K B S0 Q y G') → (∀ (G' : List Sl) e, G'[0]? = some (.ow z) → Rf z a e → At K B S0 (fun _ H' => E (.ref (Y e)) none H') G') →
      At K B S0 (t { nx := fun _ H' => Q .non H', rt := Q }) (.ow z :: Sls.sls a ++ List.replicate (N.length - (PyA.n α + 1)) .no)) : t { nx := fun _ H' => Q .non H', rt := Q } (L2.start N vs) H := by
  obtain ⟨S', v0, ws, qs, z, a, e, es, ho, hqs, r, hp, q, qe⟩ := sp
  subst e
  refine h2 z a hp _ S' Q (fun G' y z' hz ea hR S1 σ1 H1 F1 v k1 r1 => ?_) (fun G' x hz hf S1 σ1 H1 F1 k1 => ?_) S' _ H _ (start_knM (N := N) es ho hqs r)
  · obtain ⟨v1, _, o1⟩ := k1.ow hz
    have ev : v1 = v0 := by rw [o1.1, ho.1, ea]
    rw [ev] at o1
    refine q v S1 H1 (F1 0) y z' hR k1.s0 k1.sub (fun p o m e => k1.keep p o (by rw [if_neg m]; exact e)) (fun p o m e => k1.clean p o (by rw [if_neg m]; exact e)) (fun p m => ?_) o1 r1
    obtain ⟨a1, a2, a3⟩ := k1.off 0 p m
    refine ⟨a1, a3, ?_⟩
    by_cases c : p ∈ qs
    · exact .inl c
    · rw [if_neg c] at a2
      exact .inr a2
  · obtain ⟨v1, _, o1⟩ := k1.ow hz
    have ev : v1 = v0 := by rw [o1.1, ho.1]
    have eq : F1 0 = qs := by rw [o1.2.1, ho.2.1]
    rw [ev, eq] at o1
    refine qe x S1 H1 hf k1.s0 k1.sub (fun p o m e => k1.keep p o (by rw [if_neg m]; exact e)) (fun p o m e => k1.clean p o (by rw [if_neg m]; exact e)) (fun p m => ?_) o1
    obtain ⟨a1, a2, a3⟩ := k1.off 0 p (by rw [eq]; exact m)
    exact ⟨a1, a3⟩
theorem mdef_spOX {x q : Str} {st : Stmt} {N ps : List Str} {k : Nat} {R : Car C → α → β → Car C → Prop} {Rf : Car C → α → XC → Prop} {pre : Car C → α → Prop} (D : MDef K C x q st ps) (S : FnScope N ps (defScope st)) (hn : PyA.n α + 1 = ps.length)
    (h : ∀ (fa : Addr) (cdv : Value) (A : Around) (outer : List Env) (s : Shared) (H : Hp) (E : XK), Room k (A.deeper (envOfC q (defScope st) s.heap.objs.size fa cdv)) →
      ∃ t, PSs (cxOf (L2.CX P w) P w K mg base N q (defScope st) fa cdv A outer s H E) (defBody st) t ∧
        ∀ (z : Car C) (a : α), pre z a → ∀ (B S0 : Hp) (Q : VK), (∀ (G' : List Sl) y (z' : Car C), G'[0]? = some (.ow z') → z'.a = z.a → R z a y z' → RT K B S0 Q y G') → (∀ (G' : List Sl) e, G'[0]? = some (.ow z) → Rf z a e → At K B S0 (fun _ H' => E (.ref (Y e)) none H') G') →
          At K B S0 (t { nx := fun _ H' => Q .non H', rt := Q }) (.ow z :: Sls.sls a ++ List.replicate (N.length - (PyA.n α + 1)) .no)) :
    MCalX P w K mg base (k + 1) C x ps (spOX K Y R Rf pre) := by
  obtain ⟨fa, fd, m, Fu, b⟩ := D.ex
  refine ⟨fa, fd, m, Fu.okX S (fun vs H Q E ⟨S, v0, ws, qs, z, a, e, _, _, _, r, _⟩ => by rw [e, List.length_cons, PyA.len r]; exact hn) fun cdv A outer s H vs Q E hr sp => ?_, b⟩
  obtain ⟨t, h1, h2⟩ := h fa cdv A outer s H E hr
  exact ⟨t, h1, body_spOX sp h2⟩
theorem def_spOX {x : Str} {st : Stmt} {N ps : List Str} {k : Nat} {R : Car C → α → β → Car C → Prop} {Rf : Car C → α → XC → Prop} {pre : Car C → α → Prop} (D : Def K mg x st ps) (S : FnScope N ps (defScope st)) (hn : PyA.n α + 1 = ps.length)
    (h : ∀ (fa : Addr) (cdv : Value) (A : Around) (outer : List Env) (s : Shared) (H : Hp) (E : XK), Room k (A.deeper (envOfC x (defScope st) s.heap.objs.size fa cdv)) →
      ∃ t, PSs (cxOf (L2.CX P w) P w K mg base N x (defScope st) fa cdv A outer s H E) (defBody st) t ∧
        ∀ (z : Car C) (a : α), pre z a → ∀ (B S0 : Hp) (Q : VK), (∀ (G' : List Sl) y (z' : Car C), G'[0]? = some (.ow z') → z'.a = z.a → R z a y z' → RT K B S0 Q y G') → (∀ (G' : List Sl) e, G'[0]? = some (.ow z) → Rf z a e → At K B S0 (fun _ H' => E (.ref (Y e)) none H') G') →
          At K B S0 (t { nx := fun _ H' => Q .non H', rt := Q }) (.ow z :: Sls.sls a ++ List.replicate (N.length - (PyA.n α + 1)) .no)) :
    CalX P w K mg base (k + 1) x ps (spOX K Y R Rf pre) := by
  obtain ⟨fa, fd, m, Fu, b⟩ := D.ex
  refine ⟨fa, fd, m, Fu.okX S (fun vs H Q E ⟨S, v0, ws, qs, z, a, e, _, _, _, r, _⟩ => by rw [e, List.length_cons, PyA.len r]; exact hn) fun cdv A outer s H vs Q E hr sp => ?_, Fu.kp, b⟩
  obtain ⟨t, h1, h2⟩ := h fa cdv A outer s H E hr
  exact ⟨t, h1, body_spOX sp h2⟩
/-- a def that refuses nothing, over such a thing -/
theorem def_spO {x : Str} {st : Stmt} {N ps : List Str} {k : Nat} {R : Car C → α → β → Car C → Prop} {pre : Car C → α → Prop} (D : Def K mg x st ps) (S : FnScope N ps (defScope st)) (hn : PyA.n α + 1 = ps.length)
    (h : ∀ (fa : Addr) (cdv : Value) (A : Around) (outer : List Env) (s : Shared) (H : Hp) (E : XK), Room k (A.deeper (envOfC x (defScope st) s.heap.objs.size fa cdv)) →
      ∃ t, PSs (cxOf CX0 P w K mg base N x (defScope st) fa cdv A outer s H E).nox (defBody st) t ∧
        ∀ (z : Car C) (a : α), pre z a → ∀ (B S0 : Hp) (Q : VK), (∀ (G' : List Sl) y (z' : Car C), G'[0]? = some (.ow z') → z'.a = z.a → R z a y z' → RT K B S0 Q y G') → At K B S0 (t { nx := fun _ H' => Q .non H', rt := Q }) (.ow z :: Sls.sls a ++ List.replicate (N.length - (PyA.n α + 1)) .no)) :
    Cal P w K mg base (k + 1) x ps (spO K R pre) := by
  obtain ⟨fa, fd, m, Fu, b⟩ := D.ex
  refine ⟨fa, fd, m, Fu.ok S (fun vs H Q E ⟨S, v0, ws, qs, z, a, e, _, _, _, r, _⟩ => by rw [e, List.length_cons, PyA.len r]; exact hn) fun cdv A outer s H vs Q E hr ⟨S', v0, ws, qs, z, a, e, es, ho, hqs, r, hp, q⟩ => ?_, Fu.kp, b⟩
  obtain ⟨t, h1, h2⟩ := h fa cdv A outer s H E hr
  exact ⟨t, h1, body_spOX (Y := fun _ => 0) (Rf := fun _ _ _ => False) (E := E) ⟨S', v0, ws, qs, z, a, e, es, ho, hqs, r, hp, q, fun _ _ _ f => f.elim⟩ fun z a hp B S0 Q hret _ => h2 z a hp B S0 Q hret⟩
end
end GL

/-! Expressions of which only a word is known: calls told by a relation, within other expressions. -/
namespace GL
open PySem PySem.Spec PyProof.Rows L2
section
variable {α τ : Type}
def EvW [Py α] (K : Fg) (te : TE) (G : List Sl) (R : τ → Prop) (x : τ → α) (st : τ → List Sl) : Prop :=
  ∀ B S0 S σ H F, Kn K B S0 S σ H F G → ∀ Q : VK, (∀ w, R w → ∀ v S' H', Same S S' → Kn K B S0 S' σ H' F (st w) → Py.rep K S' v (x w) → Q v H') → te σ H Q
def EvAW [PyA α] (K : Fg) (ta : TA) (G : List Sl) (R : τ → Prop) (x : τ → α) (st : τ → List Sl) : Prop :=
  ∀ B S0 S σ H F, Kn K B S0 S σ H F G → ∀ Q : List V → Hp → Prop, (∀ w, R w → ∀ vs S' H', Same S S' → Kn K B S0 S' σ H' F (st w) → PyA.rep K S' vs (x w) → Q vs H') → ta σ H Q
def EvLsW [Py α] (K : Fg) (ta : TA) (G : List Sl) (R : τ → Prop) (x : τ → List α) (st : τ → List Sl) : Prop :=
  ∀ B S0 S σ H F, Kn K B S0 S σ H F G → ∀ Q : List V → Hp → Prop, (∀ w, R w → ∀ vs S' H', Same S S' → Kn K B S0 S' σ H' F (st w) → RepL K S' vs (x w) → Q vs H') → ta σ H Q
end
def EvTW {τ : Type} (K : Fg) (tt : TT) (G : List Sl) (R : τ → Prop) (b : τ → Bool) (st : τ → List Sl) : Prop :=
  ∀ B S0 S σ H F, Kn K B S0 S σ H F G → ∀ Q : Bool → Hp → Prop, (∀ w, R w → ∀ S' H', Same S S' → Kn K B S0 S' σ H' F (st w) → Q (b w) H') → tt σ H Q
/-- the promise of a def of which a relation is known; nothing else changes -/
def spQ {α β : Type} [PyA α] [Py β] (K : Fg) (R : α → β → Prop) (pre : α → Prop) : Sp := fun vs H Q _ => ∃ (S : Hp) (a : α), Same S H ∧ PyA.rep K S vs a ∧ pre a ∧ ∀ y v S' H', Grow S H S' H' → R a y → Py.rep K S' v y → Q v H'
section
variable {K : Fg} {B S0 S1 S S' D : Hp} {σ : L2.St} {H H' : Hp} {F : Nat → List Addr} {G G' G1 G2 G3 : List Sl} {ta tb tc te : TE} {i j : Nat} {t u w : TS} {E : Ends} {tt : TT} {g : TG} {X : XK}
variable {α β γ τ τ2 : Type}
section
variable [Py α] [Py β] {R : τ → Prop} {x : τ → α} {st : τ → List Sl} {y : α}
theorem ew_of (h : EvX K te G y G1) : EvW K te G (fun _ : Unit => True) (fun _ => y) (fun _ => G1) := fun B S0 S σ H F k Q q => h B S0 S σ H F k Q fun v S' H' e k' r => q () True.intro v S' H' e k' r
theorem eaw_of [PyA γ] {y : γ} {ta : TA} (h : EvA K ta G y G1) : EvAW K ta G (fun _ : Unit => True) (fun _ => y) (fun _ => G1) := fun B S0 S σ H F k Q q => h B S0 S σ H F k Q fun v S' H' e k' r => q () True.intro v S' H' e k' r
/-- a call told by a relation, the owned thing in slot j first -/
theorem ew_rel {ω : Type} [Own ω] [Anch ω] [PyA γ] {R : γ → β → Prop} {pre : γ → Prop} {z z1 : ω} {a : γ} {t : TA} (j : Nat) (hj : G[j]? = some (.ow z)) (ha : EvA K t G a G1) (hj1 : G1[j]? = some (.ow z1)) (hp : pre a) :
    EvW K (tCall (spR (ω := ω) K ω R pre) [] X (tCons (tVar j) t)) G (fun w : β × ω => R a w.1 ∧ Anch.fp w.2 = Anch.fp z1) (fun w => w.1) (fun w => G1.set j (.ow w.2)) := fun B S0 S σ H F kn Q q => by
  obtain ⟨v0, h1, h2⟩ := kn.ow hj
  refine ⟨v0, h1, ha B S0 S σ H F kn _ fun vs S1 H1 e1 k1 r1 => ?_⟩
  show spR (ω := ω) K ω R pre (v0 :: vs ++ []) H1 _ X
  rw [List.append_nil]
  obtain ⟨v1, h3, h4⟩ := k1.ow hj1
  rw [h1] at h3
  cases h3
  refine ⟨S1, v0, vs, F j, z1, a, rfl, k1.sub, h4, fun p hp => ⟨(k1.off j p hp).1, (k1.off j p hp).2.2⟩, r1, hp, fun v S2 H2 y z' hR hfp s1 s2 hk hc hl ho r2 => ?_⟩
  have hH : ∀ p o, p ∉ F j → H1 p = some o → H2 p = some o := hk
  refine q (y, z') ⟨hR, hfp⟩ v S2 H2 (e1.trans s1) ?_ r2
  refine ⟨k1.s0.trans s1, s2, fun p o e => ?_, fun p o e => (hc p o (k1.keep p o e)).trans (k1.clean p o e), fun i p hp => ?_, k1.dj, by rw [List.length_set]; exact k1.len, fun i s e => ?_⟩
  · exact hH p o (fun m => by rw [(k1.off j p m).2.1] at e; cases e) (k1.keep p o e)
  · obtain ⟨a1, a2, o, a3⟩ := k1.off i p hp
    refine ⟨(hc p o a3).trans a1, a2, ?_⟩
    by_cases m : p ∈ F j
    · exact hl p m
    · exact ⟨o, hH p o m a3⟩
  · rcases set_get e with ⟨rfl, rfl⟩ | ⟨ne, e⟩
    · exact ⟨v0, h1, ho⟩
    · have w := k1.sl i s e
      cases s with
      | no => exact True.intro
      | im y =>
        obtain ⟨u, b1, b2⟩ := w
        exact ⟨u, b1, Py.mono s1 b2⟩
      | ow y =>
        obtain ⟨u, b1, b2⟩ := w
        refine ⟨u, b1, Own.mono s1 (fun p hp => ?_) b2⟩
        obtain ⟨_, _, o, a3⟩ := k1.off i p hp
        rw [a3]
        exact hH p o (fun m => ne (k1.dj i j p hp m)) a3
theorem ew_callQ [PyA γ] {R : γ → β → Prop} {pre : γ → Prop} {a : γ} {t : TA} (ha : EvA K t G a G1) (hp : pre a) :
    EvW K (tCall (spQ K R pre) [] X t) G (fun w : β => R a w) (fun w => w) (fun _ => G1) := fun B S0 S σ H F kn Q q => by
  refine ha B S0 S σ H F kn _ fun vs S1 H1 e1 k1 r1 => ?_
  show spQ K R pre (vs ++ []) H1 _ X
  rw [List.append_nil]
  exact ⟨S1, a, k1.sub, r1, hp, fun y v S2 H2 g hR r2 => q y hR v S2 H2 (e1.trans g.s) (k1.grow g) r2⟩
theorem ew_callQW [PyA γ] {R : τ → Prop} {x : τ → γ} {R2 : γ → β → Prop} {pre : γ → Prop} {t : TA} (ha : EvAW K t G R x st) (hp : ∀ w, R w → pre (x w)) :
    EvW K (tCall (spQ K R2 pre) [] X t) G (fun w : τ × β => R w.1 ∧ R2 (x w.1) w.2) (fun w => w.2) (fun w => st w.1) := fun B S0 S σ H F kn Q q => by
  refine ha B S0 S σ H F kn _ fun w hw vs S1 H1 e1 k1 r1 => ?_
  show spQ K R2 pre (vs ++ []) H1 _ X
  rw [List.append_nil]
  exact ⟨S1, x w, k1.sub, r1, hp w hw, fun y v S2 H2 g hR r2 => q (w, y) ⟨hw, hR⟩ v S2 H2 (e1.trans g.s) (k1.grow g) r2⟩
/-- arguments, the last of which is so -/
theorem eaw_last (h : EvW K ta G R x st) : EvAW K (tCons ta tNil) G R (fun w => (x w, ())) st := fun B S0 S σ H F k Q q =>
  h B S0 S σ H F k _ fun w hw v S1 H1 e1 k1 r1 => q w hw [v] S1 H1 e1 k1 ⟨v, [], rfl, r1, rfl⟩
theorem eaw_cons [PyA γ] {R : τ → Prop} {x : τ → γ} {tr : TA} (h : EvX K ta G y G1) (hr : EvAW K tr G1 R x st) : EvAW K (tCons ta tr) G R (fun w => (y, x w)) st := fun B S0 S σ H F k Q q =>
  h B S0 S σ H F k _ fun v S1 H1 e1 k1 r1 => hr B S0 S1 σ H1 F k1 _ fun w hw vs S2 H2 e2 k2 r2 => q w hw (v :: vs) S2 H2 (e1.trans e2) k2 ⟨v, vs, rfl, Py.mono e2 r1, r2⟩
theorem eaw_consW [PyA γ] {R2 : τ → τ2 → Prop} {x2 : τ → τ2 → γ} {st2 : τ → τ2 → List Sl} {tr : TA} (h : EvW K ta G R x st) (hr : ∀ w, R w → EvAW K tr (st w) (R2 w) (x2 w) (st2 w)) :
    EvAW K (tCons ta tr) G (fun w : τ × τ2 => R w.1 ∧ R2 w.1 w.2) (fun w => (x w.1, x2 w.1 w.2)) (fun w => st2 w.1 w.2) := fun B S0 S σ H F k Q q =>
  h B S0 S σ H F k _ fun w hw v S1 H1 e1 k1 r1 => hr w hw B S0 S1 σ H1 F k1 _ fun w2 hw2 vs S2 H2 e2 k2 r2 => q (w, w2) ⟨hw, hw2⟩ (v :: vs) S2 H2 (e1.trans e2) k2 ⟨v, vs, rfl, Py.mono e2 r1, r2⟩
theorem ew_call [PyA γ] {R : τ → Prop} {x : τ → γ} {f : γ → β} {pre : γ → Prop} {t : TA} (ha : EvAW K t G R x st) (hp : ∀ w, R w → pre (x w)) : EvW K (tCall (spF K f pre) [] X t) G R (fun w => f (x w)) st := fun B S0 S σ H F k Q q =>
  ha B S0 S σ H F k _ fun w hw vs S1 H1 e1 k1 r1 => by
    show spF K f pre (vs ++ []) H1 _ X
    rw [List.append_nil]
    exact ⟨S1, x w, k1.sub, r1, hp w hw, fun v S2 H2 g r2 => q w hw v S2 H2 (e1.trans g.s) (k1.grow g) r2⟩
theorem elsw_last (h : EvW K ta G R x st) : EvLsW K (tCons ta tNil) G R (fun w => [x w]) st := fun B S0 S σ H F k Q q =>
  h B S0 S σ H F k _ fun w hw v S1 H1 e1 k1 r1 => q w hw [v] S1 H1 e1 k1 ⟨r1, True.intro⟩
theorem elsw_cons {R2 : τ → τ2 → Prop} {x2 : τ → τ2 → List α} {st2 : τ → τ2 → List Sl} {tr : TA} (h : EvW K ta G R x st) (hr : ∀ w, R w → EvLsW K tr (st w) (R2 w) (x2 w) (st2 w)) :
    EvLsW K (tCons ta tr) G (fun w : τ × τ2 => R w.1 ∧ R2 w.1 w.2) (fun w => x w.1 :: x2 w.1 w.2) (fun w => st2 w.1 w.2) := fun B S0 S σ H F k Q q =>
  h B S0 S σ H F k _ fun w hw v S1 H1 e1 k1 r1 => hr w hw B S0 S1 σ H1 F k1 _ fun w2 hw2 vs S2 H2 e2 k2 r2 => q (w, w2) ⟨hw, hw2⟩ (v :: vs) S2 H2 (e1.trans e2) k2 ⟨Py.mono e2 r1, r2⟩
theorem ew_lst {R : τ → Prop} {x : τ → List α} {st : τ → List Sl} {t : TA} (h : EvLsW K t G R x st) (hl : ∀ w, R w → (x w).length ≤ 1000) : EvW K (tLst t) G R x st := fun B S0 S σ H F k Q q =>
  h B S0 S σ H F k _ fun w hw vs S1 H1 e1 k1 r1 => ⟨by rw [r1.len]; exact Nat.le_trans (hl w hw) (by decide), fun p hp =>
    q w hw (.ref p) _ _ (e1.trans (same_new (k1.free hp).1)) (k1.new hp) ⟨p, vs, rfl, upd_same, r1.mono (same_new (k1.free hp).1)⟩⟩
/-! tests -/
theorem etw_B {b : τ → Bool} (h : EvW K te G R b st) : EvTW K (tB te) G R b st := fun B S0 S σ H F k Q q => h B S0 S σ H F k _ fun w hw v S1 H1 e1 k1 r1 => ⟨b w, r1, q w hw S1 H1 e1 k1⟩
theorem etw_not {b : τ → Bool} (h : EvTW K tt G R b st) : EvTW K (tNot tt) G R (fun w => !b w) st := fun B S0 S σ H F k Q q => h B S0 S σ H F k _ fun w hw S1 H1 e1 k1 => q w hw S1 H1 e1 k1
theorem etw_test {b : τ → Bool} (h : EvW K te G R b st) : EvTW K (tTest te) G R b st := fun B S0 S σ H F k Q q => h B S0 S σ H F k _ fun w hw v S1 H1 e1 k1 r1 => ⟨b w, r1, q w hw S1 H1 e1 k1⟩
theorem q_ifW {b : τ → Bool} (h : EvTW K tt G R b st) (h1 : ∀ z, R z → b z = true → At K B S0 (t { E with nx := u E }) (st z)) (h2 : ∀ z, R z → b z = false → At K B S0 (w { E with nx := u E }) (st z)) : At K B S0 (tSeq (tIfS tt t w) u E) G := fun S σ H F kn =>
  h B S0 S σ H F kn _ fun z hz S' H' e kn' => by
    have a1 := h1 z hz
    have a2 := h2 z hz
    revert a1 a2
    cases b z with
    | true => exact fun a1 _ => a1 rfl S' σ H' F kn'
    | false => exact fun _ a2 => a2 rfl S' σ H' F kn'
theorem q_ifWF {b : τ → Bool} (h : EvTW K tt G R b st) (h1 : ∀ z, R z → b z = false) (h2 : ∀ z, R z → At K B S0 (u E) (st z)) : At K B S0 (tSeq (tIfS tt t tNext) u E) G :=
  q_ifW h (fun z hz e => by rw [h1 z hz] at e; cases e) fun z hz _ => h2 z hz
theorem q_asgW (h : EvW K te G R x st) (k : ∀ w, R w → ∃ G2 ts, TgG K g (x w) (st w) G2 ts ∧ At K B S0 (u E) G2) : At K B S0 (tSeq (tAsg te g) u E) G := fun S σ H F kn =>
  h B S0 S σ H F kn _ fun w hw v S' H' e kn' r => by
    obtain ⟨G2, ts, tg, hat⟩ := k w hw
    exact tg.2 B S0 S' σ H' F v kn' r _ fun σ' k2 _ _ => hat S' σ' H' F k2
theorem q_setW (i : Nat) (h : EvW K te G R x st) (hi : ∀ w, ((st w)[i]?).isSome = true) (k : ∀ w, R w → At K B S0 (u E) ((st w).set i (.im (x w)))) : At K B S0 (tSeq (tAsg te (gName i)) u E) G :=
  q_asgW h fun w hw => ⟨_, _, tg_name (hi w), k w hw⟩
theorem q_retW (h : EvW K te G R x st) (k : ∀ w, R w → RT K B S0 E.rt (x w) (st w)) : At K B S0 (tSeq (tRet te) u E) G := fun S σ H F kn =>
  h B S0 S σ H F kn _ fun w hw v S' H' e kn' r => k w hw S' σ H' F v kn' r
end
end
/-! a def of which a relation is known -/
section
variable {P : Program} {w : World} {K : Fg} {mg : Str → Option Value} {base : Heap} {α β : Type} [Sls α] [Py β]
theorem def_spQ {x : Str} {st : Stmt} {N ps : List Str} {k : Nat} {R : α → β → Prop} {pre : α → Prop} (D : Def K mg x st ps) (S : FnScope N ps (defScope st)) (hn : PyA.n α = ps.length)
    (h : ∀ (fa : Addr) (cdv : Value) (A : Around) (outer : List Env) (s : Shared) (H : Hp) (E : XK), Room k (A.deeper (envOfC x (defScope st) s.heap.objs.size fa cdv)) →
      ∃ t, PSs (cxOf CX0 P w K mg base N x (defScope st) fa cdv A outer s H E).nox (defBody st) t ∧
        ∀ (a : α), pre a → ∀ (B S0 : Hp) (Q : VK), (∀ G' y, R a y → RT K B S0 Q y G') → At K B S0 (t { nx := fun _ H' => Q .non H', rt := Q }) (Sls.sls a ++ List.replicate (N.length - PyA.n α) .no)) :
    Cal P w K mg base (k + 1) x ps (spQ K R pre) := by
  obtain ⟨fa, fd, m, F, b⟩ := D.ex
  refine ⟨fa, fd, m, F.ok S (fun vs H Q E ⟨S, a, _, r, _⟩ => (PyA.len r).trans hn) fun cdv A outer s H vs Q E hr ⟨S', a, e, r, hp, q⟩ => ?_, F.kp, b⟩
  obtain ⟨t, h1, h2⟩ := h fa cdv A outer s H E hr
  refine ⟨t, h1, h2 a hp H S' Q (fun G' y hR S1 σ1 H1 F1 v k1 r1 => ?_) S' _ H _ (start_kn e r)⟩
  exact q y v S1 H1 ⟨k1.s0, k1.sub, k1.keep, k1.clean⟩ hR r1
end
end GL
namespace GL
open PySem PySem.Spec PyProof.Rows L2
section
variable {K : Fg} {G : List Sl} {te : TE} {α τ : Type} [Py α]
theorem EvW.dat [ToD α] {R : τ → Prop} {x : τ → α} {st : τ → List Sl} (h : EvW K te G R x st) : EvW K te G R (fun w => ToD.dat (x w)) st := fun B S0 S σ H F k Q q => h B S0 S σ H F k Q fun w hw v S' H' e k' r => q w hw v S' H' e k' (ToD.of r)
end
end GL
namespace GL
open PySem PySem.Spec PyProof.Rows L2
section
variable {K : Fg} {G : List Sl} {te : TE} {τ : Type} {R : τ → Prop} {x : τ → Bool} {st : τ → List Sl} {c : Bool}
theorem ew_isB (h : EvW K te G R x st) : EvW K (tOp rIsB te (tC (.bl c))) G R (fun w => decide (x w = c)) st := fun B S0 S σ H F k Q q =>
  h B S0 S σ H F k _ fun w hw v S1 H1 e1 k1 r1 => ⟨x w, c, r1, rfl, q w hw _ S1 H1 e1 k1 rfl⟩
theorem ew_nisB (h : EvW K te G R x st) : EvW K (tOp rNotB te (tC (.bl c))) G R (fun w => !decide (x w = c)) st := fun B S0 S σ H F k Q q =>
  h B S0 S σ H F k _ fun w hw v S1 H1 e1 k1 r1 => ⟨x w, c, r1, rfl, q w hw _ S1 H1 e1 k1 rfl⟩
end
end GL

/-! Small rules beside refusals; calls as tuples of a word and numbers. -/
namespace GL
open PySem PySem.Spec PyProof.Rows L2
section
variable {K : Fg} {B S0 S1 S S' D : Hp} {σ : L2.St} {H H' : Hp} {F : Nat → List Addr} {G G' G1 G2 : List Sl} {ta tb te : TE} {t u : TS} {E : Ends} {i j : Nat} {Y : XC → Addr} {α : Type}
theorem q_try (h : At K B S0 (t { E with nx := u E }) G) : At K B S0 (tSeq t u E) G := h
theorem rt_dat [Py α] [ToD α] {x : α} {rt : VK} (h : RT K B S0 rt (ToD.dat x) G) : RT K B S0 rt x G := fun S σ H F v k r => h S σ H F v k (ToD.of r)
theorem ev_isN0 {x : Unit} (ha : EvX K ta G x G1) : EvX K (tIsN ta) G true G1 := fun B S0 S σ H F k Q q => ha B S0 S σ H F k _ fun v S1 H1 e1 k1 r1 => q _ S1 H1 e1 k1 (by rw [show v = .non from r1]; rfl)
theorem ev_notN0 {x : Unit} (ha : EvX K ta G x G1) : EvX K (tNotN ta) G false G1 := fun B S0 S σ H F k Q q => ha B S0 S σ H F k _ fun v S1 H1 e1 k1 r1 => q _ S1 H1 e1 k1 (by rw [show v = .non from r1]; rfl)
theorem ev_isNx {x : Exc Y} (ha : EvX K ta G x G1) : EvX K (tIsN ta) G false G1 := fun B S0 S σ H F k Q q => ha B S0 S σ H F k _ fun v S1 H1 e1 k1 r1 => q _ S1 H1 e1 k1 (congrArg V.bl (decide_eq_false (nn_exc K S1 v x r1)))
theorem ev_notNx {x : Exc Y} (ha : EvX K ta G x G1) : EvX K (tNotN ta) G true G1 := fun B S0 S σ H F k Q q => ha B S0 S σ H F k _ fun v S1 H1 e1 k1 r1 => q _ S1 H1 e1 k1 (congrArg V.bl (by rw [decide_eq_false (nn_exc K S1 v x r1)]; rfl))
/-! words with numbers -/
structure Wd where
  w : Str
  n : List Int
instance : Py Wd := ⟨fun K S v x => ∃ p, v = .ref p ∧ SqT K S p (.str x.w :: x.n.map V.int), fun e ⟨p, h1, h2⟩ => ⟨p, h1, seqT e h2⟩⟩
instance : Inhabited Wd := ⟨⟨Str.empty, []⟩⟩
theorem ev_wdW {x : Wd} (ha : EvX K ta G x G1) : EvX K (tOp (rIxT K) ta (tC (.int 0))) G x.w G1 := fun B S0 S σ H F k Q q =>
  ha B S0 S σ H F k _ fun v S1 H1 e1 k1 r1 => by
    obtain ⟨p, rfl, hp⟩ := r1
    exact ⟨p, _, 0, .str x.w, rfl, rfl, seqT k1.sub hp, atI_nat (j := 0) rfl, q _ S1 H1 e1 k1 rfl⟩
theorem ev_wd1 {x : Wd} (ha : EvX K ta G x G1) (h : 0 < x.n.length) : EvX K (tOp (rIxT K) ta (tC (.int 1))) G (ix x.n 0) G1 := fun B S0 S σ H F k Q q =>
  ha B S0 S σ H F k _ fun v S1 H1 e1 k1 r1 => by
    obtain ⟨p, rfl, hp⟩ := r1
    obtain ⟨w, n⟩ := x
    cases n with
    | nil => exact absurd h (by simp)
    | cons a n => exact ⟨p, _, 1, .int a, rfl, rfl, seqT k1.sub hp, atI_nat (j := 1) rfl, q _ S1 H1 e1 k1 rfl⟩
theorem ev_wd2 {x : Wd} (ha : EvX K ta G x G1) (h : 1 < x.n.length) : EvX K (tOp (rIxT K) ta (tC (.int 2))) G (ix x.n 1) G1 := fun B S0 S σ H F k Q q =>
  ha B S0 S σ H F k _ fun v S1 H1 e1 k1 r1 => by
    obtain ⟨p, rfl, hp⟩ := r1
    obtain ⟨w, n⟩ := x
    cases n with
    | nil => exact absurd h (by simp)
    | cons a n =>
      cases n with
      | nil => exact absurd h (by simp)
      | cons b n => exact ⟨p, _, 2, .int b, rfl, rfl, seqT k1.sub hp, atI_nat (j := 2) rfl, q _ S1 H1 e1 k1 rfl⟩
theorem ev_mkwd0 {w : Str} (ha : EvX K ta G w G1) : EvX K (tTup (tCons ta tNil)) G (Wd.mk w []) G1 := fun B S0 S σ H F k Q q =>
  ha B S0 S σ H F k _ fun v S1 H1 e1 k1 r1 => ⟨by show 1 ≤ sizeLine; decide, fun p hp => q (.ref p) _ _ (e1.trans (same_new (k1.free hp).1)) (k1.new hp) ⟨p, rfl, by rw [show v = .str w from r1]; exact SqT.of upd_same⟩⟩
theorem ev_mkwd1 {w : Str} {n : Int} (ha : EvX K ta G w G1) (hb : EvX K tb G1 n G2) : EvX K (tTup (tCons ta (tCons tb tNil))) G (Wd.mk w [n]) G2 := fun B S0 S σ H F k Q q =>
  ha B S0 S σ H F k _ fun v S1 H1 e1 k1 r1 => hb B S0 S1 σ H1 F k1 _ fun v2 S2 H2 e2 k2 r2 => ⟨by show 2 ≤ sizeLine; decide, fun p hp => q (.ref p) _ _ ((e1.trans e2).trans (same_new (k2.free hp).1)) (k2.new hp) ⟨p, rfl, by rw [show v = .str w from r1, show v2 = .int n from r2]; exact SqT.of upd_same⟩⟩
/-! count and index in lists of truths -/
theorem count_bls (x : Bool) : ∀ xs : List Bool, ((xs.map V.bl).countP fun z => eqV z (.bl x)) = xs.count x
  | [] => rfl
  | y :: ys => by
    rw [List.map_cons, List.countP_cons, List.count_cons, count_bls x ys]
    cases x <;> cases y <;> rfl
theorem ev_countB {xs : List Bool} {x : Bool} (ha : EvC K ta G xs G1) (hb : EvX K tb G1 x G1) : EvX K (tBM K "list" (rCntV K) ta (tCons tb tNil)) G ((xs.count x : Nat) : Int) G1 := fun B S0 S σ H F k Q q =>
  ha B S0 S σ H F k _ fun v S1 H1 e1 k1 r1 => by
    obtain ⟨p, vs, rfl, hp, hr⟩ := r1.at k1
    refine ⟨.inl ⟨rfl, _, SqL.of hp⟩, hb B S0 S1 σ H1 F k1 _ fun w S2 H2 e2 k2 r2 => ?_⟩
    obtain ⟨p', vs', ep, hp', hr'⟩ := (r1.mono e2).at k2
    cases ep
    refine ⟨p, vs', .bl x, rfl, by rw [show w = .bl x from r2], SqL.of hp', rfl, by rw [hr'.bls]; exact flat_bls _, q _ S2 H2 (e1.trans e2) k2 ?_⟩
    rw [hr'.bls, count_bls]
    rfl
theorem ev_indexB {xs : List Bool} {x : Bool} {n : Nat} (ha : EvC K ta G xs G1) (hb : EvX K tb G1 x G1) (hn : xs[n]? = some x) (hl : ∀ m : Nat, m < n → xs[m]? ≠ some x) : EvX K (tBM K "list" (rIndex K) ta (tCons tb tNil)) G (n : Int) G1 := fun B S0 S σ H F k Q q =>
  ha B S0 S σ H F k _ fun v S1 H1 e1 k1 r1 => by
    obtain ⟨p, vs, rfl, hp, hr⟩ := r1.at k1
    refine ⟨.inl ⟨rfl, _, SqL.of hp⟩, hb B S0 S1 σ H1 F k1 _ fun w S2 H2 e2 k2 r2 => ?_⟩
    obtain ⟨p', vs', ep, hp', hr'⟩ := (r1.mono e2).at k2
    cases ep
    have ev := hr'.bls
    refine ⟨p, vs', .bl x, n, .bl x, rfl, by rw [show w = .bl x from r2], SqL.of hp', rfl, by rw [ev]; exact flat_bls _, by rw [ev, List.getElem?_map, hn]; rfl, by simp [eqV], fun m z hm hz => ?_, q _ S2 H2 (e1.trans e2) k2 rfl⟩
    rw [ev, List.getElem?_map] at hz
    cases e : xs[m]? with
    | none => rw [e] at hz; cases hz
    | some y =>
      rw [e] at hz
      cases hz
      have ne := hl m hm
      rw [e] at ne
      cases x <;> cases y <;> first | rfl | exact absurd rfl ne
end
end GL

/-! Calls that read one owned list among any arguments, and tell new lists. -/
namespace GL
open PySem PySem.Spec PyProof.Rows L2
/-- kinds that, told as new, hold no older list -/
class NoLF (α : Type) [Py α] [PyF α] : Prop where
  go : ∀ {K : Fg} {D S : Hp} {p : Addr} {us : List V} {o : HO} {v : V} {x : α}, D p = some o → S p = some (.lst us) → PyF.repF K D S v x → PyF.repF K D (del S p) v x
section
variable {α β γ : Type} [Py α] [Py β] [Py γ]
instance : NoLF Int := ⟨fun _ _ h => h⟩
instance : NoLF Bool := ⟨fun _ _ h => h⟩
instance : NoLF Str := ⟨fun _ _ h => h⟩
instance : NoLF Unit := ⟨fun _ _ h => h⟩
instance [NoL α] : NoLF (Tp α) := ⟨fun {K D S p us o v x} _ h r => (inferInstance : NoL (Tp α)).go (v := v) (x := x) h r⟩
instance [NoL α] : NoLF (List α) := ⟨fun {K D S p us o v x} hd hs ⟨⟨q, vs, h1, h2, h3⟩, q', h4, h5⟩ => ⟨⟨q, vs, h1, by
  have ne : q ≠ p := fun z => by
    rw [h1] at h4
    cases h4
    rw [z, hd] at h5
    cases h5
  rw [del_ne ne]
  exact h2, nlAll hs h3⟩, q', h4, h5⟩⟩
instance [PyF α] [PyF β] [NoLF α] [NoLF β] : NoLF (α × β) := ⟨fun {K D S p us o v x} hd hs ⟨a, b, c, h1, h2, h3, h4⟩ => ⟨a, b, c, h1, nlT hs h2, NoLF.go hd hs h3, NoLF.go hd hs h4⟩⟩
instance [PyF α] [PyF β] [PyF γ] [NoLF α] [NoLF β] [NoLF γ] : NoLF (T3 α β γ) := ⟨fun {K D S p us o v x} hd hs ⟨a, b, c, d, h1, h2, h3, h4, h5⟩ => ⟨a, b, c, d, h1, nlT hs h2, NoLF.go hd hs h3, NoLF.go hd hs h4, NoLF.go hd hs h5⟩⟩
end
section
variable {K : Fg} {B S0 S1 S S' D : Hp} {σ : L2.St} {H H' : Hp} {F : Nat → List Addr} {G G' G1 G2 : List Sl} {ta tb te : TE} {t u : TS} {E : Ends} {Ex : XK} {i j : Nat} {α β δ : Type}
/-- arguments, among them the owned list d in slot i -/
def EvAL [Py δ] [PyA α] (K : Fg) (i : Nat) (d : List δ) (ta : TA) (G : List Sl) (x : α) (G' : List Sl) : Prop :=
  ∀ B S0 S σ H F, Kn K B S0 S σ H F G → ∀ Q : List V → Hp → Prop, (∀ vs S' H', Same S S' → Kn K B S0 S' σ H' F G' → (∀ p us, σ[i]? = some (some (.ref p)) → RepL K S' us d → S' p = none → PyA.rep K (upd S' p (.lst us)) vs x) → Q vs H') → ta σ H Q
theorem eal_nil [Py δ] {d : List δ} : EvAL K i d tNil G () G := fun B S0 S σ H F k Q q => q [] S H (Same.refl _) k fun _ _ _ _ _ => rfl
theorem eal_cons [Py δ] [Py α] [PyA β] {d : List δ} {x : α} {xs : β} {tr : TA} (h : EvX K ta G x G1) (hr : EvAL K i d tr G1 xs G2) : EvAL K i d (tCons ta tr) G (x, xs) G2 := fun B S0 S σ H F k Q q =>
  h B S0 S σ H F k _ fun v S1 H1 e1 k1 r1 => hr B S0 S1 σ H1 F k1 _ fun vs S2 H2 e2 k2 r2 => q (v :: vs) S2 H2 (e1.trans e2) k2 fun p us hp hr hn => ⟨v, vs, rfl, Py.mono (e2.trans (same_new hn)) r1, r2 p us hp hr hn⟩
theorem eal_lent [Py δ] [PyA β] {d : List δ} {xs : β} {tr : TA} (h : G[i]? = some (.ow d)) (hr : EvAL K i d tr G xs G2) : EvAL K i d (tCons (tVar i) tr) G (d, xs) G2 := fun B S0 S σ H F k Q q => by
  obtain ⟨p, vs0, h1, h2, h3, h4⟩ := own_list k h
  exact ⟨.ref p, h1, hr B S0 S σ H F k _ fun vs S2 H2 e2 k2 r2 => q (.ref p :: vs) S2 H2 e2 k2 fun p' us hp hu hn => by
    rw [h1] at hp
    cases hp
    exact ⟨.ref p, vs, rfl, ⟨p, us, rfl, upd_same, hu.mono (same_new hn)⟩, r2 p us h1 hu hn⟩⟩
theorem ev_callNL [Py δ] [PyA α] [Py β] [PyF β] [NoLF β] {d : List δ} {f : α → β} {pre : α → Prop} {a : α} {t : TA} (ha : EvAL K i d t G a G1) (hi : G1[i]? = some (.ow d)) (hp : pre a) : EvX K (tCall (spN K f pre) [] Ex t) G (f a) G1 := fun B S0 S σ H F k Q q =>
  ha B S0 S σ H F k _ fun vs S1 H1 e1 k1 r1 => by
    obtain ⟨p, us, h1, hF, h2, h3⟩ := own_list k1 hi
    obtain ⟨hs, hb, _⟩ := k1.off i p (by rw [hF]; exact List.mem_singleton.mpr rfl)
    have k' := k1.relLat hi h1 hF h2 h3
    show spN K f pre (vs ++ []) H1 _ Ex
    rw [List.append_nil]
    refine ⟨upd S1 p (.lst us), a, k'.sub, r1 p us h1 h3 hs, hp, fun w S2 H2 g r2 => ?_⟩
    have gl := g.lent hs
    exact q w (del S2 p) H2 (e1.trans gl.s) (k1.grow gl) (PyF.un (NoLF.go h2 (g.s _ _ upd_same) r2))
end
end GL

/-! Two owned things in one promise; values of which a word is known, owned things coming to stand elsewhere. -/
namespace GL
open PySem PySem.Spec PyProof.Rows L2
def EvMv {α τ : Type} [Py α] (K : Fg) (te : TE) (G : List Sl) (R : τ → Prop) (x : τ → α) (st : τ → List Sl) : Prop :=
  ∀ B S0 S σ H F, Kn K B S0 S σ H F G → ∀ Q : VK, (∀ w, R w → ∀ v S' H' F', Same S S' → Kn K B S0 S' σ H' F' (st w) → Py.rep K S' v (x w) → Q v H') → te σ H Q
def EvTMv {τ : Type} (K : Fg) (tt : TT) (G : List Sl) (R : τ → Prop) (b : τ → Bool) (st : τ → List Sl) : Prop :=
  ∀ B S0 S σ H F, Kn K B S0 S σ H F G → ∀ Q : Bool → Hp → Prop, (∀ w, R w → ∀ S' H' F', Same S S' → Kn K B S0 S' σ H' F' (st w) → Q (b w) H') → tt σ H Q
/-- two owned things ahead of the arguments; each may come to stand elsewhere -/
def spO2 {ω η α β : Type} [Own ω] [Own η] [PyA α] [Py β] (K : Fg) (R : ω → η → α → β → ω → η → Prop) (pre : ω → η → α → Prop) : Sp := fun vs H Q _ => ∃ (S : Hp) (v0 v1 : V) (ws : List V) (ps qs : List Addr) (z : ω) (y : η) (a : α), vs = v0 :: v1 :: ws ∧ Same S H ∧ Own.own K S H v0 ps z ∧ Own.own K S H v1 qs y ∧
  (∀ p ∈ ps, S p = none ∧ ∃ o, H p = some o) ∧ (∀ p ∈ qs, S p = none ∧ ∃ o, H p = some o) ∧ (∀ p ∈ ps, p ∉ qs) ∧ PyA.rep K S ws a ∧ pre z y a ∧
  ∀ v S' H' ps' qs' b z' y', R z y a b z' y' → Same S S' → Same S' H' → (∀ p o, p ∉ ps → p ∉ qs → H p = some o → H' p = some o) → (∀ p o, p ∉ ps → p ∉ qs → H p = some o → S' p = S p) →
    (∀ p ∈ ps', S' p = none ∧ (∃ o, H' p = some o) ∧ (p ∈ ps ∨ p ∈ qs ∨ H p = none)) → (∀ p ∈ qs', S' p = none ∧ (∃ o, H' p = some o) ∧ (p ∈ ps ∨ p ∈ qs ∨ H p = none)) → (∀ p ∈ ps', p ∉ qs') →
    Own.own K S' H' v0 ps' z' → Own.own K S' H' v1 qs' y' → Py.rep K S' v b → Q v H'
section
variable {K : Fg} {B S0 S1 S S' D : Hp} {σ : L2.St} {H H' : Hp} {F : Nat → List Addr} {G G' G1 G2 G3 : List Sl} {ta tb tc te : TE} {i j : Nat} {t : TA} {u w : TS} {tt uu : TT} {E : Ends} {g : TG} {X : XK}
section
variable {α β τ : Type} [Py α] [Py β] {R : τ → Prop} {x : τ → α} {st : τ → List Sl} {b : τ → Bool} {y : α}
theorem ev_toV (h : EvX K te G y G1) : EvMv K te G (fun _ : Unit => True) (fun _ => y) (fun _ => G1) := fun B S0 S σ H F k Q q => h B S0 S σ H F k Q fun v S' H' e k' r => q () True.intro v S' H' F e k' r
theorem EvW.toV (h : EvW K te G R x st) : EvMv K te G R x st := fun B S0 S σ H F k Q q => h B S0 S σ H F k Q fun w hw v S' H' e k' r => q w hw v S' H' F e k' r
theorem etv_B (h : EvMv K te G R b st) : EvTMv K (tB te) G R b st := fun B S0 S σ H F k Q q => h B S0 S σ H F k _ fun w hw v S1 H1 F1 e1 k1 r1 => ⟨b w, r1, q w hw S1 H1 F1 e1 k1⟩
theorem etv_not (h : EvTMv K tt G R b st) : EvTMv K (tNot tt) G R (fun w => !b w) st := fun B S0 S σ H F k Q q => h B S0 S σ H F k _ fun w hw S1 H1 F1 e1 k1 => q w hw S1 H1 F1 e1 k1
/-- t and u, where u is so; as far as u isn't reached, its word holds of what there is -/
theorem etv_and {c : Bool} (h1 : EvT K tt G c G1) (h0 : c = false → ∃ w, R w ∧ st w = G1) (h2 : c = true → EvTMv K uu G1 R b st) : EvTMv K (tAnd tt uu) G R (fun w => c && b w) st := fun B S0 S σ H F k Q q => h1 B S0 S σ H F k _ fun S1 H1 e1 k1 => by
  cases c with
  | true =>
    simp only [if_true]
    exact h2 rfl B S0 S1 σ H1 F k1 _ fun w hw S2 H2 F2 e2 k2 => q w hw S2 H2 F2 (e1.trans e2) k2
  | false =>
    simp only [Bool.false_eq_true, if_false]
    obtain ⟨w, hw, e⟩ := h0 rfl
    exact q w hw S1 H1 F e1 (by rw [e]; exact k1)
/-- t and u, where u is so; as far as u isn't reached, all is as it was -/
theorem etv_andC {c : Bool} (w0 : τ) (h1 : EvT K tt G c G1) (h0 : c = false → st w0 = G1) (h2 : c = true → EvTMv K uu G1 R b st) : EvTMv K (tAnd tt uu) G (fun w => (c = true → R w) ∧ (c = false → w = w0)) (fun w => c && b w) st := fun B S0 S σ H F k Q q => h1 B S0 S σ H F k _ fun S1 H1 e1 k1 => by
  cases c with
  | true =>
    simp only [if_true]
    exact h2 rfl B S0 S1 σ H1 F k1 _ fun w hw S2 H2 F2 e2 k2 => q w ⟨fun _ => hw, fun e => (by cases e)⟩ S2 H2 F2 (e1.trans e2) k2
  | false =>
    simp only [Bool.false_eq_true, if_false]
    exact q w0 ⟨fun e => (by cases e), fun _ => rfl⟩ S1 H1 F e1 (by rw [h0 rfl]; exact k1)
theorem q_ifVF {t : TS} (h : EvTMv K tt G R b st) (h1 : ∀ z, R z → b z = false) (h2 : ∀ z, R z → At K B S0 (u E) (st z)) : At K B S0 (tSeq (tIfS tt t tNext) u E) G := fun S σ H F kn =>
  h B S0 S σ H F kn _ fun z hz S' H' F' e kn' => by
    rw [h1 z hz]
    exact h2 z hz S' σ H' F' kn'
theorem q_setV (i : Nat) (h : EvMv K te G R x st) (hi : ∀ w, ((st w)[i]?).isSome = true) (k : ∀ w, R w → At K B S0 (u E) ((st w).set i (.im (x w)))) : At K B S0 (tSeq (tAsg te (gName i)) u E) G := fun S σ H F kn =>
  h B S0 S σ H F kn _ fun w hw v S' H' F' e kn' r => k w hw S' _ H' F' (kn'.set r (hi w))
theorem q_dropV (h : EvMv K te G R x st) (k : ∀ w, R w → At K B S0 (u E) (st w)) : At K B S0 (tSeq (tDrop te) u E) G := fun S σ H F kn =>
  h B S0 S σ H F kn _ fun w hw v S' H' F' e kn' r => k w hw S' _ H' F' kn'
theorem q_retV (h : EvMv K te G R x st) (k : ∀ w, R w → RT K B S0 E.rt (x w) (st w)) : At K B S0 (tSeq (tRet te) u E) G := fun S σ H F kn =>
  h B S0 S σ H F kn _ fun w hw v S' H' F' e kn' r => k w hw S' σ H' F' v kn' r
end
section
variable {ω η : Type} [Own ω] [Own η] {z z' z1 : ω} {y y' y1 : η}
theorem Kn.moved2 {S2 H2 : Hp} {v0 v1 : V} {ps' qs' : List Addr} (k1 : Kn K B S0 S1 σ H F G1) (ne : i ≠ j) (hi1 : G1[i]? = some (.ow z)) (hj1 : G1[j]? = some (.ow y)) (h1 : σ[i]? = some (some v0)) (h2 : σ[j]? = some (some v1)) (s1 : Same S1 S2) (s2 : Same S2 H2)
    (hk : ∀ p o, p ∉ F i → p ∉ F j → H p = some o → H2 p = some o) (hc : ∀ p o, p ∉ F i → p ∉ F j → H p = some o → S2 p = S1 p)
    (hl : ∀ p ∈ ps', S2 p = none ∧ (∃ o, H2 p = some o) ∧ (p ∈ F i ∨ p ∈ F j ∨ H p = none)) (hm : ∀ p ∈ qs', S2 p = none ∧ (∃ o, H2 p = some o) ∧ (p ∈ F i ∨ p ∈ F j ∨ H p = none)) (hd : ∀ p ∈ ps', p ∉ qs')
    (ho : Own.own K S2 H2 v0 ps' z') (hy : Own.own K S2 H2 v1 qs' y') : Kn K B S0 S2 σ H2 (upF (upF F i ps') j qs') ((G1.set i (.ow z')).set j (.ow y')) := by
  have hB : ∀ p, (p ∈ F i ∨ p ∈ F j ∨ H p = none) → B p = none := fun p hp => by
    rcases hp with m | m | m
    · exact (k1.off i p m).2.1
    · exact (k1.off j p m).2.1
    · exact (k1.free m).2.1
  have hN : ∀ p, (p ∈ F i ∨ p ∈ F j ∨ H p = none) → ∀ k, k ≠ i → k ≠ j → p ∉ F k := fun p hp k c1 c2 m => by
    rcases hp with m' | m' | m'
    · exact c1 (k1.dj k i p m m')
    · exact c2 (k1.dj k j p m m')
    · exact (k1.free m').2.2 k m
  have eF : ∀ k, upF (upF F i ps') j qs' k = if k = j then qs' else if k = i then ps' else F k := fun k => by
    by_cases c : k = j
    · rw [if_pos c, c, upF_self]
    · rw [if_neg c, upF_ne c]
      by_cases c' : k = i
      · rw [if_pos c', c', upF_self]
      · rw [if_neg c', upF_ne c']
  have nB : ∀ p o, B p = some o → p ∉ F i ∧ p ∉ F j := fun p o e => ⟨fun m => by (rw [(k1.off i p m).2.1] at e; cases e), fun m => by (rw [(k1.off j p m).2.1] at e; cases e)⟩
  refine ⟨k1.s0.trans s1, s2, fun p o e => hk p o (nB p o e).1 (nB p o e).2 (k1.keep p o e), fun p o e => (hc p o (nB p o e).1 (nB p o e).2 (k1.keep p o e)).trans (k1.clean p o e), fun k p hp => ?_, fun a b p ha hb => ?_, by rw [List.length_set, List.length_set]; exact k1.len, fun k s e => ?_⟩
  · rw [eF] at hp
    by_cases c : k = j
    · rw [if_pos c] at hp
      exact ⟨(hm p hp).1, hB p (hm p hp).2.2, (hm p hp).2.1⟩
    · rw [if_neg c] at hp
      by_cases c' : k = i
      · rw [if_pos c'] at hp
        exact ⟨(hl p hp).1, hB p (hl p hp).2.2, (hl p hp).2.1⟩
      · rw [if_neg c'] at hp
        obtain ⟨a1, a2, o, a3⟩ := k1.off k p hp
        have n1 : p ∉ F i := fun m => c' (k1.dj k i p hp m)
        have n2 : p ∉ F j := fun m => c (k1.dj k j p hp m)
        exact ⟨(hc p o n1 n2 a3).trans a1, a2, o, hk p o n1 n2 a3⟩
  · rw [eF] at ha hb
    by_cases a1 : a = j
    · rw [if_pos a1] at ha
      by_cases b1 : b = j
      · rw [a1, b1]
      · rw [if_neg b1] at hb
        by_cases b2 : b = i
        · rw [if_pos b2] at hb
          exact absurd ha (hd p hb)
        · rw [if_neg b2] at hb
          exact absurd hb (hN p (hm p ha).2.2 b b2 b1)
    · rw [if_neg a1] at ha
      by_cases a2 : a = i
      · rw [if_pos a2] at ha
        by_cases b1 : b = j
        · rw [if_pos b1] at hb
          exact absurd hb (hd p ha)
        · rw [if_neg b1] at hb
          by_cases b2 : b = i
          · rw [a2, b2]
          · rw [if_neg b2] at hb
            exact absurd hb (hN p (hl p ha).2.2 b b2 b1)
      · rw [if_neg a2] at ha
        by_cases b1 : b = j
        · rw [if_pos b1] at hb
          exact absurd ha (hN p (hm p hb).2.2 a a2 a1)
        · rw [if_neg b1] at hb
          by_cases b2 : b = i
          · rw [if_pos b2] at hb
            exact absurd ha (hN p (hl p hb).2.2 a a2 a1)
          · rw [if_neg b2] at hb
            exact k1.dj a b p ha hb
  · rw [eF]
    rcases set_get e with ⟨rfl, rfl⟩ | ⟨n1, e⟩
    · rw [if_pos rfl]
      exact ⟨v1, h2, hy⟩
    · rw [if_neg n1]
      rcases set_get e with ⟨rfl, rfl⟩ | ⟨n2, e⟩
      · rw [if_pos rfl]
        exact ⟨v0, h1, ho⟩
      · rw [if_neg n2]
        have w := k1.sl k s e
        cases s with
        | no => exact True.intro
        | im y =>
          obtain ⟨u, b1, b2⟩ := w
          exact ⟨u, b1, Py.mono s1 b2⟩
        | ow y =>
          obtain ⟨u, b1, b2⟩ := w
          refine ⟨u, b1, Own.mono s1 (fun p hp => ?_) b2⟩
          obtain ⟨_, _, o, a3⟩ := k1.off k p hp
          rw [a3]
          exact hk p o (fun m => n2 (k1.dj k i p hp m)) (fun m => n1 (k1.dj k j p hp m)) a3
theorem ev_callO2 {α β : Type} [PyA α] [Py β] {a : α} {R : ω → η → α → β → ω → η → Prop} {pre : ω → η → α → Prop} (i j : Nat) (ne : i ≠ j) (hi : G[i]? = some (.ow z)) (hj : G[j]? = some (.ow y)) (ha : EvA K t G a G1) (hi1 : G1[i]? = some (.ow z1)) (hj1 : G1[j]? = some (.ow y1)) (hp : pre z1 y1 a) :
    EvMv K (tCall (spO2 K R pre) [] X (tCons (tVar i) (tCons (tVar j) t))) G (fun w : β × ω × η => R z1 y1 a w.1 w.2.1 w.2.2) (fun w => w.1) (fun w => (G1.set i (.ow w.2.1)).set j (.ow w.2.2)) := fun B S0 S σ H F kn Q q => by
  obtain ⟨v0, h1, _⟩ := kn.ow hi
  obtain ⟨v1, h2, _⟩ := kn.ow hj
  refine ⟨v0, h1, v1, h2, ha B S0 S σ H F kn _ fun vs S1 H1 e1 k1 r1 => ?_⟩
  show spO2 K R pre (v0 :: v1 :: vs ++ []) H1 Q X
  rw [List.append_nil]
  obtain ⟨u0, g1, o1⟩ := k1.ow hi1
  obtain ⟨u1, g2, o2⟩ := k1.ow hj1
  rw [h1] at g1
  rw [h2] at g2
  cases g1
  cases g2
  exact ⟨S1, v0, v1, vs, F i, F j, z1, y1, a, rfl, k1.sub, o1, o2, fun p hp => ⟨(k1.off i p hp).1, (k1.off i p hp).2.2⟩, fun p hp => ⟨(k1.off j p hp).1, (k1.off j p hp).2.2⟩, fun p m m' => ne (k1.dj i j p m m'), r1, hp,
    fun v S2 H2 ps' qs' b z' y' hR s1 s2 hk hc hl hm hd ho hy r2 => q (b, z', y') hR v S2 H2 _ (e1.trans s1) (k1.moved2 ne hi1 hj1 h1 h2 s1 s2 hk hc hl hm hd ho hy) r2⟩
end
end
section
variable {P : Program} {w : World} {K : Fg} {mg : Str → Option Value} {base : Heap} {ω η α β : Type} [Own ω] [Anch ω] [Own η] [Anch η] [Sls α] [Py β] {S H : Hp}
theorem start_knM2 {v0 v1 : V} {ps qs : List Addr} {z : ω} {y : η} {vs : List V} {a : α} {N : List Str} (e : Same S H) (ho : Own.own K S H v0 ps z) (hy : Own.own K S H v1 qs y) (hps : ∀ p ∈ ps, S p = none ∧ ∃ o, H p = some o) (hqs : ∀ p ∈ qs, S p = none ∧ ∃ o, H p = some o) (hd : ∀ p ∈ ps, p ∉ qs) (r : PyA.rep K S vs a) :
    Kn K (fun p => if p ∈ ps ∨ p ∈ qs then none else H p) S S (L2.start N (v0 :: v1 :: vs)) H (fun i => if i = 0 then ps else if i = 1 then qs else []) (.ow z :: .ow y :: Sls.sls a ++ List.replicate (N.length - (PyA.n α + 2)) .no) := by
  obtain ⟨l, q⟩ := Sls.ok (H := H) r
  have hn := PyA.len r
  have hF : ∀ i p, p ∈ (if i = 0 then ps else if i = 1 then qs else []) → (i = 0 ∧ p ∈ ps) ∨ (i = 1 ∧ p ∈ qs) := fun i p hp => by
    by_cases c : i = 0
    · rw [if_pos c] at hp
      exact .inl ⟨c, hp⟩
    · rw [if_neg c] at hp
      by_cases c' : i = 1
      · rw [if_pos c'] at hp
        exact .inr ⟨c', hp⟩
      · rw [if_neg c'] at hp
        cases hp
  refine ⟨Same.refl _, e, fun p o hp => ?_, fun _ _ _ => rfl, fun i p hp => ?_, fun i j p hp hp' => ?_, ?_, fun i s hi => ?_⟩
  · by_cases m : p ∈ ps ∨ p ∈ qs
    · rw [if_pos m] at hp
      cases hp
    · rw [if_neg m] at hp
      exact hp
  · rcases hF i p hp with ⟨_, m⟩ | ⟨_, m⟩
    · exact ⟨(hps p m).1, if_pos (.inl m), (hps p m).2⟩
    · exact ⟨(hqs p m).1, if_pos (.inr m), (hqs p m).2⟩
  · rcases hF i p hp with ⟨c, m⟩ | ⟨c, m⟩ <;> rcases hF j p hp' with ⟨c', m'⟩ | ⟨c', m'⟩
    · rw [c, c']
    · exact absurd m' (hd p m)
    · exact absurd m (hd p m')
    · rw [c, c']
  · unfold L2.start
    simp only [List.length_append, List.length_map, List.length_replicate, List.length_cons, l, hn]
  · unfold L2.start
    match i with
    | 0 =>
      simp only [List.cons_append, List.getElem?_cons_zero, Option.some.injEq] at hi
      subst hi
      exact ⟨v0, rfl, ho⟩
    | 1 =>
      simp only [List.cons_append, List.getElem?_cons_zero, List.getElem?_cons_succ, Option.some.injEq] at hi
      subst hi
      exact ⟨v1, rfl, hy⟩
    | i + 2 =>
      simp only [List.cons_append, List.getElem?_cons_succ, List.map_cons] at hi ⊢
      by_cases c : i < (Sls.sls a).length
      · rw [List.getElem?_append_left c] at hi
        rw [List.getElem?_append_left (by rw [List.length_map, ← l]; exact c)]
        have := q i s hi
        rw [if_neg (by omega), if_neg (by omega)]
        exact this
      · rw [List.getElem?_append_right (by omega)] at hi
        have : s = .no := by
          have := List.mem_of_getElem? hi
          exact List.eq_of_mem_replicate this
        subst this
        exact True.intro
theorem def_spO2 {x : Str} {st : Stmt} {N ps : List Str} {k : Nat} {R : ω → η → α → β → ω → η → Prop} {pre : ω → η → α → Prop} (D : Def K mg x st ps) (S : FnScope N ps (defScope st)) (hn : PyA.n α + 2 = ps.length)
    (h : ∀ (fa : Addr) (cdv : Value) (A : Around) (outer : List Env) (s : Shared) (H : Hp) (E : XK), Room k (A.deeper (envOfC x (defScope st) s.heap.objs.size fa cdv)) →
      ∃ t, PSs (cxOf CX0 P w K mg base N x (defScope st) fa cdv A outer s H E).nox (defBody st) t ∧
        ∀ (z : ω) (y : η) (a : α), pre z y a → ∀ (B S0 : Hp) (Q : VK), (∀ (G' : List Sl) b (z' : ω) (y' : η), G'[0]? = some (.ow z') → G'[1]? = some (.ow y') → (Anch.fp z').1 = (Anch.fp z).1 → (Anch.fp y').1 = (Anch.fp y).1 → R z y a b z' y' → RT K B S0 Q b G') →
          At K B S0 (t { nx := fun _ H' => Q .non H', rt := Q }) (.ow z :: .ow y :: Sls.sls a ++ List.replicate (N.length - (PyA.n α + 2)) .no)) :
    Cal P w K mg base (k + 1) x ps (spO2 K R pre) := by
  obtain ⟨fa, fd, m, Fu, b⟩ := D.ex
  refine ⟨fa, fd, m, Fu.ok S (fun vs H Q E ⟨S, v0, v1, ws, ps, qs, z, y, a, e, _, _, _, _, _, _, r, _⟩ => by rw [e, List.length_cons, List.length_cons, PyA.len r]; exact hn) fun cdv A outer s H vs Q E hr ⟨S', v0, v1, ws, ps', qs', z, y, a, e, es, ho, hy, hps, hqs, hd, r, hp, q⟩ => ?_, Fu.kp, b⟩
  subst e
  obtain ⟨t, h1, h2⟩ := h fa cdv A outer s H E hr
  refine ⟨t, h1, ?_⟩
  refine h2 z y a hp _ S' Q (fun G' b z' y' hz hy' ea eb hR S1 σ1 H1 F1 v k1 r1 => ?_) S' _ H _ (start_knM2 (N := N) es ho hy hps hqs hd r)
  obtain ⟨u0, _, o1⟩ := k1.ow hz
  obtain ⟨u1, _, o2⟩ := k1.ow hy'
  have ev0 : u0 = v0 := (congrArg Prod.fst (Anch.at_ o1)).trans (ea.trans (congrArg Prod.fst (Anch.at_ ho)).symm)
  have ev1 : u1 = v1 := (congrArg Prod.fst (Anch.at_ o2)).trans (eb.trans (congrArg Prod.fst (Anch.at_ hy)).symm)
  rw [ev0] at o1
  rw [ev1] at o2
  have hB : ∀ p o, p ∉ ps' → p ∉ qs' → H p = some o → (if p ∈ ps' ∨ p ∈ qs' then none else H p) = some o := fun p o m m' e => by rw [if_neg (fun c => c.elim m m')]; exact e
  have hF : ∀ i p, p ∈ F1 i → S1 p = none ∧ (∃ o, H1 p = some o) ∧ (p ∈ ps' ∨ p ∈ qs' ∨ H p = none) := fun i p m => by
    obtain ⟨a1, a2, a3⟩ := k1.off i p m
    refine ⟨a1, a3, ?_⟩
    by_cases c : p ∈ ps'
    · exact .inl c
    · by_cases c' : p ∈ qs'
      · exact .inr (.inl c')
      · rw [if_neg (fun d => d.elim c c')] at a2
        exact .inr (.inr a2)
  exact q v S1 H1 (F1 0) (F1 1) b z' y' hR k1.s0 k1.sub (fun p o m m' e => k1.keep p o (hB p o m m' e)) (fun p o m m' e => k1.clean p o (hB p o m m' e)) (hF 0) (hF 1) (fun p m m' => absurd (k1.dj 0 1 p m m') (by decide)) o1 o2 r1
end
/-! two carried programs made at one place -/
def NewC {C : Addr} (g : Prog) (st : Stand) (h : Int) (z : Car C) : Prop := ∃ a w s f b, z = Car.mk a w s f b g st h 0 [] [] 0 none false Dct.emp 0 Dct.emp
section
variable {C : Addr} {K : Fg} {B S0 S1 S S' : Hp} {σ : L2.St} {H H1 H' : Hp} {F : Nat → List Addr} {G G' G1 G2 : List Sl} {i j ck i1 i2 : Nat} {t : TA} {u : TS} {E : Ends} {Ex : XK} {g : Prog} {st : Stand} {h : Int} {pv sv : V}
theorem make_at (σ : L2.St) (h1 : σ[i1]? = some (some pv)) (h2 : σ[i2]? = some (some sv)) (rg : Py.rep K S pv g) (rs : Py.rep K S sv st) {Q : VK}
    (q : ∀ (z : Car C) H', NewC g st h z → Own.own K S H' (.ref z.a) z.fp z → (∀ p ∈ z.fp, H p = none) → Same H H' → Q (.ref z.a) H') : tMake C (spCI K C) [] Ex (tCons (tVar i1) (tCons (tVar i2) (tCons (tC (.int h)) tNil))) σ H Q := by
  refine ⟨pv, h1, sv, h2, ?_⟩
  intro x dx hx hdx nx
  have hH : ∀ p o, H p = some o → upd (upd H dx (.own x)) x (.ins C dx []) p = some o := fun p o e => by
    rw [upd_ne (ne_of_none e hx), upd_ne (ne_of_none e hdx)]
    exact e
  have back : ∀ p, upd (upd H dx (.own x)) x (.ins C dx []) p = none → H p = none := fun p e => by
    cases c : H p with
    | none => rfl
    | some o => rw [hH p o c] at e; cases e
  refine ⟨S, x, dx, pv, sv, g, st, h, rfl, upd_same, rg, rs, fun w s f b H' nw ns nf nb c kp => ⟨rfl, ?_⟩⟩
  refine q (Car.mk (C := C) x w s f b g st h 0 [] [] 0 none false Dct.emp 0 Dct.emp) H' ⟨x, w, s, f, b, rfl⟩ ⟨rfl, rfl, dx, pv, sv, [], [], c⟩ (fun p hp => ?_) fun p o e => kp p o (ne_of_none e hx) (hH p o e)
  simp only [Car.fp, List.mem_cons, List.mem_nil_iff, or_false] at hp
  rcases hp with e | e | e | e | e <;> rw [e]
  · exact hx
  · exact back _ nw
  · exact back _ ns
  · exact back _ nf
  · exact back _ nb
theorem own_mov {z : Car C} {D : Addr} {o : HO} (h : Own.own K S H (.ref z.a) z.fp z) (n : D ∉ z.fp) : Own.own K S (upd H D o) (.ref z.a) z.fp z := Own.mono (Same.refl _) (fun p hp => upd_ne fun e => n (e ▸ hp)) h
theorem own_up {z : Car C} (h : Own.own K S H (.ref z.a) z.fp z) (e : Same H H') : Own.own K S H' (.ref z.a) z.fp z := by
  obtain ⟨_, _, dx, pv, sv, kf, kb, c⟩ := id h
  refine Own.mono (Same.refl _) (fun p hp => ?_) h
  obtain ⟨o, ho⟩ := c.some hp
  rw [ho, e p o ho]
theorem own_some {z : Car C} (h : Own.own K S H (.ref z.a) z.fp z) {p : Addr} (hp : p ∈ z.fp) : ∃ o, H p = some o := by
  obtain ⟨_, _, dx, pv, sv, kf, kb, c⟩ := id h
  exact c.some hp
theorem yes_if {σ : L2.St} {H : Hp} {P : Hp → Prop} {Q : Hp → Prop} (h : P H) : tYes σ H fun b H3 => if b = true then P H3 else Q H3 := by
  show (if true = true then P H else Q H)
  rw [if_pos rfl]
  exact h
theorem q_twoC (i j : Nat) (hi1 : G[i1]? = some (.im g)) (hi2 : G[i2]? = some (.im st)) (n1 : i1 ≠ ck) (n2 : i2 ≠ ck) (hi : G[i]?.isSome = true) (hj : G[j]?.isSome = true) (ne : i ≠ j) (k : ∀ z y : Car C, NewC g st h z → NewC g st h y → At K B S0 (u E) ((G.set i (.ow z)).set j (.ow y))) :
    At K B S0 (tSeq (tAsg (tLc (iRng1 (tCons (tC (.int 2)) tNil)) (gName ck) tYes (tMake C (spCI K C) [] Ex (tCons (tVar i1) (tCons (tVar i2) (tCons (tC (.int h)) tNil)))) [ck]) (gLst K 2 (gCons (gName i) (gCons (gName j) gNil)))) u E) G := fun S σ H1 F kn => by
  obtain ⟨pv, h1, rg⟩ := kn.sl i1 _ hi1
  obtain ⟨sv, h2, rs⟩ := kn.sl i2 _ hi2
  refine ⟨2, rfl, by decide, by decide, fun D hD => ?_⟩
  have hS : S D = none := (kn.free hD).1
  have hw : ∀ x : Int, wipe ((wipe σ [ck]).set ck (some (.int x))) [ck] = wipe σ [ck] := fun x => by
    apply List.ext_getElem?
    intro m
    by_cases c : m = ck
    · subst c
      simp [wipe]
    · simp [wipe, List.getElem?_set_ne (fun e => c e.symm)]
  have hg : ∀ (x : Int) (m : Nat), m ≠ ck → ((wipe σ [ck]).set ck (some (.int x)))[m]? = σ[m]? := fun x m c => by
    simp [wipe, List.getElem?_set_ne (fun e => c e.symm)]
  let W : Nat → Nat → Hp → Prop := fun n m H' => m = 2 - n ∧ Same H1 H' ∧ ((n = 0 ∧ H' D = some (.lst [])) ∨
    (n = 1 ∧ ∃ z : Car C, NewC g st h z ∧ Own.own K S H' (.ref z.a) z.fp z ∧ (∀ p ∈ z.fp, H1 p = none ∧ p ≠ D) ∧ H' D = some (.lst [.ref z.a])) ∨
    (n = 2 ∧ ∃ z y : Car C, NewC g st h z ∧ NewC g st h y ∧ Own.own K S H' (.ref z.a) z.fp z ∧ Own.own K S H' (.ref y.a) y.fp y ∧ (∀ p ∈ z.fp, H1 p = none ∧ p ≠ D) ∧ (∀ p ∈ y.fp, H1 p = none ∧ p ≠ D) ∧ (∀ p ∈ z.fp, p ∉ y.fp) ∧ H' D = some (.lst [.ref z.a, .ref y.a])))
  have same_D : ∀ {H2 : Hp} {o : HO}, Same H1 H2 → Same H1 (upd H2 D o) := fun e p o ho => by
    rw [upd_ne (ne_of_none ho hD)]
    exact e p o ho
  refine ⟨W, ⟨2, rfl, same_D (Same.refl _), .inl ⟨rfl, upd_same⟩⟩, fun n m H2 hW => ?_⟩
  obtain ⟨em, hs, hW⟩ := hW
  rcases hW with ⟨rfl, hd⟩ | ⟨rfl, z, nz, oz, fz, hd⟩ | ⟨rfl, z, y, nz, ny, oz, oy, fz, fy, dj, hd⟩
  · refine .inr ⟨by show 0 < 2; decide, fun H' => W 1 1 H', fun H' hh => ⟨1, by omega, hh⟩, fun x H' hx => ?_⟩
    obtain ⟨rfl, rfl⟩ := hx
    refine ⟨hw _, ?_⟩
    refine yes_if ?_
    refine make_at (K := K) (S := S) (g := g) (st := st) _ ((hg _ _ n1).trans h1) ((hg _ _ n2).trans h2) rg rs fun z H3 nz oz fz e3 => ?_
    have nD : D ∉ z.fp := fun m => by have := fz D m; rw [hd] at this; cases this
    refine ⟨[], e3 D _ hd, by decide, rfl, same_D (hs.trans e3), .inr (.inl ⟨rfl, z, nz, own_mov oz nD, fun p hp => ⟨?_, fun e => nD (e ▸ hp)⟩, upd_same⟩)⟩
    cases c : H1 p with
    | none => rfl
    | some o => have := fz p hp; rw [hs p o c] at this; cases this
  · refine .inr ⟨by show 1 < 2; decide, fun H' => W 2 0 H', fun H' hh => ⟨0, by omega, hh⟩, fun x H' hx => ?_⟩
    obtain ⟨rfl, rfl⟩ := hx
    refine ⟨hw _, ?_⟩
    refine yes_if ?_
    refine make_at (K := K) (S := S) (g := g) (st := st) _ ((hg _ _ n1).trans h1) ((hg _ _ n2).trans h2) rg rs fun y H3 ny oy fy e3 => ?_
    have nD : D ∉ y.fp := fun m => by have := fy D m; rw [hd] at this; cases this
    have nz' : D ∉ z.fp := fun m => (fz D m).2 rfl
    refine ⟨[.ref z.a], e3 D _ hd, by show 1 < sizeLine; decide, rfl, same_D (hs.trans e3), .inr (.inr ⟨rfl, z, y, nz, ny, own_mov (own_up oz e3) nz', own_mov oy nD, fz, fun p hp => ⟨?_, fun e => nD (e ▸ hp)⟩, fun p hp hq => ?_, upd_same⟩)⟩
    · cases c : H1 p with
      | none => rfl
      | some o => have := fy p hp; rw [hs p o c] at this; cases this
    · obtain ⟨o, ho⟩ := own_some oz hp
      have := fy p hq
      rw [ho] at this
      cases this
  · refine .inl ⟨by show 2 ≤ 2; decide, D, [.ref z.a, .ref y.a], rfl, SqL.of hd, rfl, ?_⟩
    have g2 : Grow S H1 S H2 := ⟨Same.refl _, fun p o e => hs p o (kn.sub p o e), hs, fun _ _ _ => rfl⟩
    have k2 := kn.grow g2
    have k3 := k2.setOwns (v := .ref z.a) (x := z) (i := i) (ps := z.fp) oz hi fun p hp => ⟨(kn.free (fz p hp).1).1, (kn.free (fz p hp).1).2.1, own_some oz hp, (kn.free (fz p hp).1).2.2⟩
    have k4 := k3.setOwns (v := .ref y.a) (x := y) (i := j) (ps := y.fp) oy (by rw [List.getElem?_set_ne ne]; exact hj) fun p hp => ⟨(kn.free (fy p hp).1).1, (kn.free (fy p hp).1).2.1, own_some oy hp, fun m hm => ?_⟩
    · exact ⟨.ref z.a, [.ref y.a], rfl, .ref y.a, [], rfl, rfl, k z y nz ny S ((σ.set i (some (.ref z.a))).set j (some (.ref y.a))) H2 _ k4⟩
    · by_cases c : m = i
      · rw [c, upF_self] at hm
        exact dj p hm hp
      · rw [upF_ne c] at hm
        exact (kn.free (fy p hp).1).2.2 m hm
end
section
variable {C : Addr} {K : Fg} {G : List Sl} {i : Nat} {Ex : XK} {m : Str} {β : Type} [Py β] {z : Car C} {f : Car C → Unit → β × Car C} {pre : Car C → Unit → Prop}
/-- a method that but reads -/
theorem ev_methR (hm : m ∉ carK) (hi : G[i]? = some (.ow z)) (hp : pre z ()) (hz : (f z ()).2 = z) : EvX K (tMeth C m (spM K f pre) [] Ex (tVar i) tNil) G (f z ()).1 G := by
  have h := ev_methM (K := K) (f := f) (Ex := Ex) hm hi ea_nil hi hp
  have e : G.set i (.ow (f z ()).2) = G := by
    rw [hz]
    apply List.ext_getElem?
    intro n
    by_cases c : i = n
    · subst c
      rw [List.getElem?_set_self (List.getElem?_eq_some_iff.mp hi).1, hi]
    · rw [List.getElem?_set_ne c]
  rw [e] at h
  exact h
end
end GL

namespace GL
open PySem PySem.Spec PyProof.Rows L2
/-! ### runs put together -/
theorem filter_pre {l : Lets} {now : Int} (hs : (l.map (·.1)).Pairwise (· ≤ ·)) : l.filter (fun x => decide (x.1 ≤ now)) = l.take (l.filter (fun x => decide (x.1 ≤ now))).length := by
  induction l with
  | nil => rfl
  | cons y l ih =>
    rw [List.map_cons, List.pairwise_cons] at hs
    by_cases h : y.1 ≤ now
    · rw [List.filter_cons, if_pos (by simp; exact h), List.length_cons, List.take_succ_cons, ← ih hs.2]
    · have e : (y :: l).filter (fun x => decide (x.1 ≤ now)) = [] := by
        rw [List.filter_eq_nil_iff]
        intro x hx
        rcases List.mem_cons.mp hx with e | e
        · rw [e]; simp; omega
        · have := hs.1 x.1 (List.mem_map.mpr ⟨x, e, rfl⟩)
          simp
          omega
      rw [e]; rfl
theorem used_nn (g : Prog) (s : Stand) (l : Lets) (xs : List Int) : 0 ≤ (runF g s l xs).1 := by
  refine rev_indU (P := fun xs => 0 ≤ (runF g s l xs).1) ?_ (fun xs n ih => ?_) xs
  · rw [run_nil]; exact Int.le_refl _
  · rw [run_snoc, runStep_used]; split <;> omega
theorem used_ok {g : Prog} {s : Stand} {l : Lets} (hs : (l.map (·.1)).Pairwise (· ≤ ·)) (n : Nat) : (runF g s l (rng 0 n)).1 ≤ l.length ∧ ∀ x ∈ l.take (runF g s l (rng 0 n)).1.toNat, x.1 < n := by
  induction n with
  | zero =>
    rw [rng_nil (by omega), run_nil]
    exact ⟨by dsimp only; omega, by simp⟩
  | succ n ih =>
    have e : ((n + 1 : Nat) : Int) = (n : Int) + 1 := by omega
    rw [e, rng_succ (by omega), run_snoc, runStep_used]
    have h0 := used_nn g s l (rng 0 n)
    generalize hu : (runF g s l (rng 0 n)).1 = u at *
    by_cases hk : decide ((tickM g (runF g s l (rng 0 ↑n)).2.1 ((availM l ↑n).drop u.toNat)).b = Str.ofString "took") = true
    · rw [if_pos hk]
      have hne := List.length_pos_iff.mpr (took_ne hk)
      rw [List.length_drop] at hne
      have hf := filter_pre (l := l) (now := n) hs
      have hc : (availM l n).length = (l.filter (fun x => decide (x.1 ≤ (n : Int)))).length := by unfold availM; rw [List.length_map]
      have hle := List.length_filter_le (fun x : Int × Int => decide (x.1 ≤ (n : Int))) l
      refine ⟨by omega, fun x hx => ?_⟩
      have hx2 : x ∈ l.take (l.filter (fun x => decide (x.1 ≤ (n : Int)))).length := (List.take_sublist_take_left (show (u + 1).toNat ≤ _ by omega)).mem hx
      rw [← hf] at hx2
      have := of_decide_eq_true (List.mem_filter.mp hx2).2
      omega
    · rw [if_neg hk, Int.add_zero]
      exact ⟨ih.1, fun x hx => by have := ih.2 x hx; omega⟩
@[irreducible] def restM (l : Lets) (at_ used : Int) : Lets := (cutL l (some used) none).map (fun x => (max 0 (x.1 - at_), x.2))
theorem avail_rest {l : Lets} {at_ u k : Int} (hu : 0 ≤ u) (hul : u ≤ l.length) (hk : 0 ≤ k) (hle : ∀ x ∈ l.take u.toNat, x.1 ≤ at_ + k) : availM (restM l at_ u) k = (availM l (at_ + k)).drop u.toNat := by
  unfold availM restM
  rw [cut_drop hu, List.filter_map, List.map_map]
  have e1 : ((fun x : Int × Int => decide (x.1 ≤ k)) ∘ fun x : Int × Int => (max 0 (x.1 - at_), x.2)) = fun x => decide (x.1 ≤ at_ + k) := by
    funext x
    simp only [Function.comp, decide_eq_decide]
    omega
  rw [e1]
  have e2 : l.filter (fun x => decide (x.1 ≤ at_ + k)) = l.take u.toNat ++ (l.drop u.toNat).filter (fun x => decide (x.1 ≤ at_ + k)) := by
    conv => lhs; rw [← List.take_append_drop u.toNat l]
    rw [List.filter_append]
    congr 1
    rw [List.filter_eq_self]
    intro x hx
    simp
    exact hle x hx
  rw [e2, List.map_append, List.drop_append_of_le_length (by rw [List.length_map, List.length_take]; omega), List.drop_of_length_le (l := (l.take u.toNat).map (fun x : Int × Int => x.2)) (by rw [List.length_map, List.length_take]; omega), List.nil_append]
  rfl

theorem run_split {g : Prog} {s : Stand} {l : Lets} (hs : (l.map (·.1)).Pairwise (· ≤ ·)) {at_ : Int} (h0 : 0 ≤ at_) {R0 : RunS} (hR : R0 = runF g s l (rng 0 at_)) (k : Nat) :
    ∃ R' : RunS, R' = runF g R0.2.1 (restM l at_ R0.1) (rng 0 k) ∧ runF g s l (rng 0 (at_ + k)) = (R0.1 + R'.1, R'.2.1, R0.2.2.1 ++ R'.2.2.1.map (fun x => (x.1 + at_, x.2)), R0.2.2.2 ++ R'.2.2.2) := by
  have hu0 := used_nn g s l (rng 0 at_)
  obtain ⟨hu1, hu2⟩ := used_ok (g := g) (s := s) hs at_.toNat
  rw [show ((at_.toNat : Nat) : Int) = at_ by omega] at hu1 hu2
  rw [← hR] at hu0 hu1 hu2
  induction k with
  | zero =>
    refine ⟨_, rfl, ?_⟩
    rw [rng_nil (a := 0) (b := ((0 : Nat) : Int)) (by omega), run_nil, show at_ + ((0 : Nat) : Int) = at_ by omega, ← hR]
    simp
  | succ k ih =>
    obtain ⟨R', e1, e2⟩ := ih
    have hn := used_nn g R0.2.1 (restM l at_ R0.1) (rng 0 k)
    rw [← e1] at hn
    refine ⟨_, rfl, ?_⟩
    rw [show ((k + 1 : Nat) : Int) = (k : Int) + 1 by omega, ← Int.add_assoc, rng_succ (b := at_ + k) (by omega), rng_succ (b := (k : Int)) (by omega), run_snoc, run_snoc, e2, ← e1]
    have ea : (availM l (at_ + k)).drop (R0.1 + R'.1).toNat = (availM (restM l at_ R0.1) k).drop R'.1.toNat := by
      rw [avail_rest hu0 hu1 (by omega) (fun x hx => by have := hu2 x hx; omega), List.drop_drop]
      congr 1
      omega
    unfold runStep
    dsimp only
    rw [ea]
    generalize tickM g R'.2.1 ((availM (restM l at_ R0.1) k).drop R'.1.toNat) = t
    refine Prod.ext (by dsimp only; omega) (Prod.ext rfl (Prod.ext ?_ ?_))
    · dsimp only
      split
      · rw [List.map_append, List.append_assoc, Int.add_comm at_ k]; rfl
      · rfl
    · dsimp only
      rw [List.append_assoc]
theorem split_run {g : Prog} {s : Stand} {l : Lets} (hs : (l.map (·.1)).Pairwise (· ≤ ·)) {at_ many u : Int} (h0 : 0 ≤ at_) (h1 : at_ ≤ many) (hu : u = (runF g s l (rng 0 at_)).1) {mid : Stand} (hm : mid = (runM g s l at_).a) {rest : Lets} (hr : rest = restM l at_ u) :
    (runM g mid rest (many - at_)).a = (runM g s l many).a ∧ (runM g s l at_).b ++ (runM g mid rest (many - at_)).b.map (fun x => (x.1 + at_, x.2)) = (runM g s l many).b ∧ (runM g s l at_).c ++ (runM g mid rest (many - at_)).c = (runM g s l many).c := by
  obtain ⟨R', e1, e2⟩ := run_split (g := g) (s := s) hs h0 rfl (many - at_).toNat
  have hmid : mid = (runF g s l (rng 0 at_)).2.1 := by rw [hm]; unfold runM; rfl
  rw [show (((many - at_).toNat : Nat) : Int) = many - at_ by omega, ← hmid, ← hu, ← hr] at e1
  rw [show at_ + (((many - at_).toNat : Nat) : Int) = many by omega] at e2
  unfold runM
  rw [e2, ← e1]
  exact ⟨rfl, rfl, rfl⟩
theorem runStep_congr {g : Prog} {l l' : Lets} {st : RunS} {n : Int} (h : availM l n = availM l' n) : runStep g l st n = runStep g l' st n := by
  unfold runStep; rw [h]
theorem run_congr {g : Prog} {s : Stand} {l l' : Lets} {xs : List Int} (h : ∀ n ∈ xs, availM l n = availM l' n) : runF g s l xs = runF g s l' xs := by
  unfold runF
  generalize ((0, s, [], []) : RunS) = st
  induction xs generalizing st with
  | nil => rfl
  | cons x xs ih =>
    rw [List.foldl_cons, List.foldl_cons, runStep_congr (h x (by simp)), ih (fun n hn => h n (List.mem_cons_of_mem _ hn))]
theorem behind_run {g : Prog} {s : Stand} {l : Lets} {many far : Int} (hf : many ≤ far) : runM g s (l.filter (fun x => decide (x.1 < many)) ++ [(far, 0)]) many = runM g s l many := by
  have e : runF g s (l.filter (fun x => decide (x.1 < many)) ++ [(far, 0)]) (rng 0 many) = runF g s l (rng 0 many) := run_congr fun n hn => by
    have hlt := (mem_rng.mp hn).2
    unfold availM
    rw [List.filter_append, List.filter_filter]
    have e1 : [((far, 0) : Int × Int)].filter (fun x => decide (x.1 ≤ n)) = [] := by
      rw [List.filter_eq_nil_iff]; intro x hx; rw [List.mem_singleton.mp hx]; simp; omega
    rw [e1, List.append_nil]
    congr 2
    funext x
    by_cases hx : x.1 ≤ n
    · rw [decide_eq_true hx, decide_eq_true (show x.1 < many by omega)]; rfl
    · rw [decide_eq_false hx]; rfl
  unfold runM
  rw [e]
theorem behind_ok {g : Prog} {l : Lets} {many far : Int} (hg : 0 < g.b) (hl : LetsOk g l) (hm : l.length ≤ 100) (hf : many ≤ far) : LetsOk g (l.filter (fun x => decide (x.1 < many)) ++ [(far, 0)]) := by
  refine ⟨?_, fun x hx => ?_, ?_⟩
  · rw [List.map_append, List.pairwise_append]
    refine ⟨hl.srt.sublist ((List.filter_sublist).map _), List.pairwise_singleton _ _, fun a ha b hb => ?_⟩
    obtain ⟨x, hx, e⟩ := List.mem_map.mp ha
    have := of_decide_eq_true (List.mem_filter.mp hx).2
    rw [List.mem_singleton.mp hb, ← e]
    show x.1 ≤ far
    omega
  · rcases List.mem_append.mp hx with q | q
    · exact hl.nums x (List.mem_filter.mp q).1
    · rw [List.mem_singleton.mp q]; exact ⟨Int.le_refl _, hg⟩
  · have := List.length_filter_le (fun x : Int × Int => decide (x.1 < many)) l
    rw [List.length_append]
    simp
    omega
theorem rest_ok {g : Prog} {l : Lets} {at_ u : Int} (hu : 0 ≤ u) (hl : LetsOk g l) : LetsOk g (restM l at_ u) ∧ (restM l at_ u).length ≤ l.length := by
  unfold restM
  rw [cut_drop hu]
  refine ⟨⟨?_, fun x hx => ?_, ?_⟩, ?_⟩
  · rw [List.map_map]
    have h := hl.srt.sublist ((List.drop_sublist u.toNat l).map (fun x : Int × Int => x.1))
    rw [List.pairwise_map] at h ⊢
    exact h.imp fun {a b} hab => by simp only [Function.comp]; omega
  · obtain ⟨y, hy, e⟩ := List.mem_map.mp hx
    rw [← e]
    exact hl.nums y (List.mem_of_mem_drop hy)
  · have := hl.len
    rw [List.length_map, List.length_drop]; omega
  · rw [List.length_map, List.length_drop]; omega
theorem rng_app (m : Int) (h : 0 ≤ m) (k : Nat) : ∃ ys, rng 0 (m + k) = rng 0 m ++ ys := by
  induction k with
  | zero => exact ⟨[], by rw [show m + ((0 : Nat) : Int) = m by omega, List.append_nil]⟩
  | succ k ih =>
    obtain ⟨ys, e⟩ := ih
    exact ⟨ys ++ [m + k], by rw [show m + ((k + 1 : Nat) : Int) = m + k + 1 by omega, rng_succ (by omega), e, List.append_assoc]⟩
theorem run_app (g : Prog) (s : Stand) (l : Lets) (xs ys : List Int) : ∃ zs, (runF g s l (xs ++ ys)).2.2.2 = (runF g s l xs).2.2.2 ++ zs := by
  refine rev_indU (P := fun ys => ∃ zs, (runF g s l (xs ++ ys)).2.2.2 = (runF g s l xs).2.2.2 ++ zs) ⟨[], by simp⟩ (fun ys n ih => ?_) ys
  obtain ⟨zs, e⟩ := ih
  rw [← List.append_assoc, run_snoc]
  unfold runStep
  dsimp only
  rw [e]
  exact ⟨_, List.append_assoc _ _ _⟩
theorem far_run {g : Prog} {s : Stand} {l : Lets} {many : Int} (h : 0 ≤ many) : cutL (runM g s l (many + 5)).c none (some many) = (runM g s l many).c := by
  obtain ⟨ys, e⟩ := rng_app many h 5
  obtain ⟨zs, e2⟩ := run_app g s l (rng 0 many) ys
  have hl := (run_len (g := g) (s := s) (l := l) (rng 0 many)).1
  rw [len_rng, Int.sub_zero] at hl
  unfold runM
  dsimp only
  rw [show many + 5 = many + ((5 : Nat) : Int) by omega, e, e2]
  generalize (runF g s l (rng 0 many)).2.2.2 = A at *
  unfold cutL
  have em : many = ((many.toNat : Nat) : Int) := by omega
  rw [em, HT.sIx_none, HT.sIx_nat, ← hl, Nat.min_eq_left (by rw [List.length_append]; omega), List.drop_zero, Nat.sub_zero, List.take_left']
  rfl
/-! ### takes told by the rows -/
theorem took_iff {g : Prog} {s : Stand} {l : List Int} {row : WRow} (hg : ProgOk g) (hs : StandOk g s) (hr : row = if decide (s.1 < (g.c.l.length : Int)) = true then ix g.c.l s.1 else WRow.fin) :
    (decide (row.word = Str.ofString "take") && !decide ((tickM g s l).a.1 = s.1)) = decide ((tickM g s l).b = Str.ofString "took") := by
  rw [isTake_w]
  refine tick_cases (fun t => (row.isTake && !decide (t.a.1 = s.1)) = decide (t.b = Str.ofString "took")) (fun _ => ?_) (fun _ _ _ => ?_) (fun r hrr _ => ?_)
  · dsimp only
    rw [decide_eq_true rfl, Bool.not_true, Bool.and_false]
    exact (by decide +kernel : false = decide (Str.ofString "ended" = Str.ofString "took"))
  · dsimp only
    rw [decide_eq_true rfl, Bool.not_true, Bool.and_false]
    exact (by decide +kernel : false = decide (Str.ofString "waits" = Str.ofString "took"))
  · obtain ⟨h1, h2, -, -⟩ := tick_row hg hs hrr
    have e : row = r := by rw [hr, if_pos (decide_eq_true h1), h2]
    rw [e]
    cases r with
    | take p =>
      have h : ¬ (dGo s.1 s.2 (.take p)) = s.1 := by dsimp only [dGo]; omega
      show (true && !decide (dGo s.1 s.2 (.take p) = s.1)) = _
      rw [decide_eq_false h]
      exact (by decide +kernel : true = decide (Str.ofString "took" = Str.ofString "took"))
    | say p => exact (by decide +kernel : false = decide (Str.ofString "said" = Str.ofString "took"))
    | _ => exact (by decide +kernel : false = decide (Str.ofString "did" = Str.ofString "took"))
theorem took_step {g : Prog} {s : Stand} {l : Lets} {pre post : List Int} {now many taken : Int} {here there : Stand} {row : WRow} (hg : ProgOk g) (hs : StandOk g s) (hl : LetsOk g l) (ex : pre ++ now :: post = rng 0 many) (h1 : taken = (runF g s l pre).1) (h2 : here = (runF g s l pre).2.1)
    (ht : there = (runM g s l (now + 1)).a) (hr : row = if decide (here.1 < (g.c.l.length : Int)) = true then ix g.c.l here.1 else WRow.fin) :
    (if (decide (row.word = Str.ofString "take") && !decide (there.1 = here.1)) = true then taken + 1 else taken) = (runF g s l (pre ++ [now])).1 ∧ there = (runF g s l (pre ++ [now])).2.1 := by
  obtain ⟨hp, -, hn, -⟩ := rng_pre ex
  have e : there = (runF g s l (pre ++ [now])).2.1 := by
    rw [ht]; unfold runM; rw [rng_succ hn, ← hp]
  refine ⟨?_, e⟩
  have hso := (run_ok hg hs hl pre).1
  rw [run_snoc, runStep_stand, ← h1, ← h2] at e
  rw [run_snoc, runStep_used, ← h1, ← h2, e, took_iff hg (by rw [h2]; exact hso) hr]
  split <;> omega
end GL

namespace GL
open PySem PySem.Spec PyProof.Rows L2
variable {C : Addr}
/-! ### carried by any copies, tick by tick -/
def letStep (now : Int) (z : Car C) (x : Int × Int) : Car C := if decide (x.1 = now) = true then letterC z x.2 else z
def cpyStep (now : Int) (z : Car C) (x : Int × Int) : Car C := if decide (x.1 = now) = true then copyC z x.2 else z
theorem lets_fold (now : Int) : ∀ (l : Lets) (z : Car C), l.foldl (letStep now) z = { z with wait := z.wait ++ (l.filter fun x => decide (x.1 = now)).map (·.2) }
  | [], z => by simp
  | x :: l, z => by
    rw [List.foldl_cons, lets_fold now l]
    unfold letStep
    by_cases e : x.1 = now
    · rw [if_pos (by simpa using e), List.filter_cons, if_pos (by simpa using e)]
      unfold letterC
      simp
    · rw [if_neg (by simpa using e), List.filter_cons, if_neg (by simpa using e)]
structure Cpd (now : Int) (l : List (Int × Int)) (z z' : Car C) : Prop where
  g : z'.g = z.g
  st : z'.st = z.st
  wait : z'.wait = z.wait
  said : z'.said = z.said
  done : z'.done = z.done
  goal : z'.goal = z.goal
  still : z'.still = z.still
  ab : z'.absent = z.absent
  pl : z'.place = z.place
  ho : z'.houses = z.houses
  made : z'.made = z.made + ((l.filter fun c => decide (c.1 = now)).length : Int)
  fr : ∀ p, (z'.fresh.get? p).isSome = (decide ((now, p) ∈ l) || (z.fresh.get? p).isSome)
  fl : (z'.fresh.l.length : Int) ≤ z.fresh.l.length + ((l.filter fun c => decide (c.1 = now)).length : Int)
theorem cpy_fold (now : Int) (l : List (Int × Int)) (z : Car C) : Cpd now l z (l.foldl (cpyStep now) z) := by
  refine rev_indU (P := fun l => Cpd now l z (l.foldl (cpyStep now) z)) ⟨rfl, rfl, rfl, rfl, rfl, rfl, rfl, rfl, rfl, rfl, by simp, fun p => by simp, by simp⟩ (fun l x ih => ?_) l
  rw [List.foldl_append, List.foldl_cons, List.foldl_nil]
  generalize l.foldl (cpyStep now) z = y at ih ⊢
  obtain ⟨h1, h2, h3, h4, h5, h6, h7, h8, h9, h10, h11, h12, h13⟩ := ih
  unfold cpyStep
  by_cases e : x.1 = now
  · rw [if_pos (by simpa using e)]
    unfold copyC
    have hlen : ((l ++ [x]).filter fun c => decide (c.1 = now)).length = (l.filter fun c => decide (c.1 = now)).length + 1 := by
      rw [List.filter_append, List.length_append, List.filter_cons, if_pos (by simpa using e)]
      rfl
    refine ⟨h1, h2, h3, h4, h5, h6, h7, h8, h9, h10, ?_, fun p => ?_, ?_⟩
    · show y.made + 1 = _
      rw [h11, hlen]
      omega
    · show ((y.fresh.put x.2 true).get? p).isSome = _
      rw [Dct.get?_put]
      by_cases q : p = x.2
      · rw [if_pos q]
        have : (now, p) ∈ l ++ [x] := by rw [← e, q]; simp
        rw [decide_eq_true this]; rfl
      · rw [if_neg q, h12 p]
        have : ((now, p) ∈ l ++ [x]) ↔ (now, p) ∈ l := by
          rw [List.mem_append, List.mem_singleton]
          exact ⟨fun h => h.elim id fun h => absurd (congrArg Prod.snd h) q, .inl⟩
        rw [decide_eq_decide.mpr this]
    · have := put_len (d := y.fresh) (k := x.2) (x := true)
      show ((y.fresh.put x.2 true).l.length : Int) ≤ _
      rw [hlen]
      omega
  · rw [if_neg (by simpa using e)]
    have hlen : ((l ++ [x]).filter fun c => decide (c.1 = now)) = (l.filter fun c => decide (c.1 = now)) := by
      rw [List.filter_append, List.filter_cons, if_neg (by simpa using e), List.filter_nil, List.append_nil]
    refine ⟨h1, h2, h3, h4, h5, h6, h7, h8, h9, h10, by rw [hlen]; exact h11, fun p => ?_, by rw [hlen]; exact h13⟩
    have : ((now, p) ∈ l ++ [x]) ↔ (now, p) ∈ l := by
      rw [List.mem_append, List.mem_singleton]
      exact ⟨fun h => h.elim id fun h => absurd (congrArg Prod.fst h).symm e, .inl⟩
    rw [h12 p, decide_eq_decide.mpr this]
/-! what is left at a tick's end -/
theorem tks_next {cps : List (Int × Int)} {t p x : Int} (ht : 0 ≤ t) : x ∈ tks cps (t + 1) p ↔ x ∈ tks cps t p ∨ (x = t ∧ (t, p) ∈ cps) := by
  unfold tks inT
  simp only [List.mem_map, List.mem_filter, Bool.and_eq_true, decide_eq_true_eq]
  constructor
  · rintro ⟨c, ⟨hc, h1, h2, h3⟩, rfl⟩
    by_cases e : c.1 = t
    · right; exact ⟨e, by rw [← e, ← h1]; exact hc⟩
    · left; exact ⟨c, ⟨hc, h1, h2, by omega⟩, rfl⟩
  · rintro (⟨c, ⟨hc, h1, h2, h3⟩, rfl⟩ | ⟨rfl, hc⟩)
    · exact ⟨c, ⟨hc, h1, h2, by omega⟩, rfl⟩
    · exact ⟨(x, p), ⟨hc, rfl, ht, by omega⟩, rfl⟩
theorem tks_lt {cps : List (Int × Int)} {t p x : Int} (h : x ∈ tks cps t p) : 0 ≤ x ∧ x < t := by
  unfold tks inT at h
  simp only [List.mem_map, List.mem_filter, Bool.and_eq_true, decide_eq_true_eq] at h
  obtain ⟨c, ⟨_, _, h2, h3⟩, rfl⟩ := h
  exact ⟨h2, h3⟩
theorem lf_iff {T : List (Tp Int)} {cps : List (Int × Int)} {t p : Int} : lfT T cps t p = false ↔ ∃ x ∈ tks cps t p, lastW T t p < x := by
  unfold lfT
  rw [Bool.or_eq_false_iff, decide_eq_false_iff_not, decide_eq_false_iff_not]
  constructor
  · rintro ⟨h1, h2⟩
    exact ⟨maxL (tks cps t p), maxL_mem h1, by omega⟩
  · rintro ⟨x, hx, h⟩
    refine ⟨fun e => ?_, ?_⟩
    · rw [e] at hx; cases hx
    · have := le_maxL hx
      omega
theorem lf_next {T : List (Tp Int)} {cps : List (Int × Int)} {t p : Int} (ht : 0 ≤ t) : (!lfT T cps (t + 1) p) = ((decide ((t, p) ∈ cps) || !lfT T cps t p) && !decide (p ∈ (T.getD t.toNat ⟨[]⟩).l)) := by
  have key : lfT T cps (t + 1) p = false ↔ (((t, p) ∈ cps ∨ lfT T cps t p = false) ∧ p ∉ (T.getD t.toNat ⟨[]⟩).l) := by
    rw [lf_iff, lf_iff, lastW_next ht]
    by_cases hw : p ∈ (T.getD t.toNat ⟨[]⟩).l
    · rw [if_pos hw]
      constructor
      · rintro ⟨x, hx, h⟩
        have := tks_lt hx
        omega
      · rintro ⟨_, h⟩
        exact absurd hw h
    · rw [if_neg hw]
      constructor
      · rintro ⟨x, hx, h⟩
        refine ⟨?_, hw⟩
        rcases (tks_next ht).mp hx with q | q
        · exact .inr ⟨x, q, h⟩
        · exact .inl q.2
      · rintro ⟨q | ⟨x, hx, h⟩, _⟩
        · exact ⟨t, (tks_next ht).mpr (.inr ⟨rfl, q⟩), lastW_lt ht⟩
        · exact ⟨x, (tks_next ht).mpr (.inl hx), h⟩
  cases h1 : lfT T cps (t + 1) p with
  | false =>
    obtain ⟨q, hw⟩ := key.mp h1
    rw [decide_eq_false hw]
    rcases q with q | q
    · rw [decide_eq_true q]; rfl
    · rw [q]; simp
  | true =>
    by_cases hw : p ∈ (T.getD t.toNat ⟨[]⟩).l
    · rw [decide_eq_true hw]; simp
    · have hn : ¬ ((t, p) ∈ cps ∨ lfT T cps t p = false) := fun q => by
        have := key.mpr ⟨q, hw⟩
        rw [h1] at this
        cases this
      have h2 : lfT T cps t p = true := by
        cases e : lfT T cps t p with
        | true => rfl
        | false => exact absurd (.inr e) hn
      rw [decide_eq_false (fun q => hn (.inl q)), h2]
      rfl
theorem inT_next {cps : List (Int × Int)} {t : Int} (ht : 0 ≤ t) : (cps.filter fun c => inT (t + 1) c.1).length = (cps.filter fun c => inT t c.1).length + (cps.filter fun c => decide (c.1 = t)).length := by
  induction cps with
  | nil => rfl
  | cons c cps ih =>
    rw [List.filter_cons, List.filter_cons, List.filter_cons]
    have hi : inT (t + 1) c.1 = (inT t c.1 || decide (c.1 = t)) := by
      unfold inT
      by_cases h0 : 0 ≤ c.1 <;> by_cases h1 : c.1 < t <;> by_cases h2 : c.1 = t <;> simp [h0, h1, h2] <;> omega
    rw [hi]
    by_cases h1 : inT t c.1 = true
    · have h2 : ¬ c.1 = t := by
        unfold inT at h1
        simp only [Bool.and_eq_true, decide_eq_true_eq] at h1
        omega
      rw [h1, decide_eq_false h2]
      simp
      omega
    · have h1' : inT t c.1 = false := by simpa using h1
      by_cases h2 : c.1 = t
      · rw [h1', decide_eq_true h2]
        simp
        omega
      · rw [h1', decide_eq_false h2]
        simp
        omega
/-! letters that come at a tick -/
theorem avail_now {l : Lets} {t : Int} (hs : (l.map (·.1)).Pairwise (· ≤ ·)) : availM l t = availM l (t - 1) ++ (l.filter fun x => decide (x.1 = t)).map (·.2) := by
  unfold availM
  rw [← List.map_append]
  congr 1
  induction l with
  | nil => rfl
  | cons x l ih =>
    rw [List.map_cons, List.pairwise_cons] at hs
    rw [List.filter_cons, List.filter_cons, List.filter_cons, ih hs.2]
    by_cases h1 : x.1 ≤ t - 1
    · rw [if_pos (by simp; omega), if_pos (by simp; omega), if_neg (by simp; omega)]
      rfl
    · have hn : l.filter (fun x => decide (x.1 ≤ t - 1)) = [] := by
        rw [List.filter_eq_nil_iff]
        intro y hy
        have := hs.1 y.1 (List.mem_map.mpr ⟨y, hy, rfl⟩)
        simp
        omega
      by_cases h2 : x.1 = t
      · rw [if_pos (by simp; omega), if_neg (by simp; omega), if_pos (by simpa using h2), hn]
        rfl
      · rw [if_neg (by simp; omega), if_neg (by simp; omega), if_neg (by simpa using h2)]
theorem used_le {g : Prog} {s : Stand} {l : Lets} {t : Int} (hs : (l.map (·.1)).Pairwise (· ≤ ·)) (ht : 0 ≤ t) : (runF g s l (rng 0 t)).1.toNat ≤ (availM l (t - 1)).length := by
  have h := used_ok (g := g) (s := s) hs t.toNat
  rw [show ((t.toNat : Nat) : Int) = t by omega] at h
  have h0 := used_nn g s l (rng 0 t)
  generalize (runF g s l (rng 0 t)).1 = u at *
  have hf : (l.take u.toNat).filter (fun x => decide (x.1 ≤ t - 1)) = l.take u.toNat := by
    rw [List.filter_eq_self]
    intro x hx
    have := h.2 x hx
    simp
    omega
  have h2 : ((l.take u.toNat).filter (fun x => decide (x.1 ≤ t - 1))).length ≤ (l.filter (fun x => decide (x.1 ≤ t - 1))).length := ((List.take_sublist _ _).filter _).length_le
  rw [hf, List.length_take] at h2
  unfold availM
  rw [List.length_map]
  omega
/-- so far it is carried -/
structure LIC (g : Prog) (s : Stand) (l : Lets) (cps : List (Int × Int)) (T : List (Tp Int)) (t : Int) (z : Car C) : Prop where
  run : CarRun g s l t (t - 1) z
  goal : z.goal = some 1
  still : z.still = false
  ab : z.absent.l = []
  pl : z.place = 0
  made : z.made = ((cps.filter fun c => inT t c.1).length : Int)
  fr : ∀ p, (z.fresh.get? p).isSome = !lfT T cps t p
  fl : (z.fresh.l.length : Int) ≤ z.made
theorem tks_zero (cps : List (Int × Int)) (p : Int) : tks cps 0 p = [] := by
  cases h : tks cps 0 p with
  | nil => rfl
  | cons x l =>
    have := tks_lt (cps := cps) (t := 0) (p := p) (x := x) (by rw [h]; exact List.mem_cons_self)
    omega
theorem LIC.start {g : Prog} {s : Stand} {l : Lets} {cps : List (Int × Int)} {T : List (Tp Int)} {z z' : Car C} (h : ∃ a w s_ f b, z = Car.mk a w s_ f b g s 2 0 [] [] 0 none false Dct.emp 0 Dct.emp) (hb : BegR z 1 z') (hl : ∀ x ∈ l, 0 ≤ x.1) : LIC g s l cps T 0 z' := by
  obtain ⟨a, w, s_, f, b, rfl⟩ := h
  obtain ⟨f', rfl⟩ := hb
  have ha : availM l (0 - 1) = [] := by
    unfold availM
    rw [List.map_eq_nil_iff, List.filter_eq_nil_iff]
    intro x hx
    have := hl x hx
    simp
    omega
  refine ⟨⟨rfl, by rw [rng_nil (Int.le_refl _), run_nil], by rw [ha]; simp, rfl, by simp⟩, rfl, rfl, rfl, rfl, ?_, fun p => ?_, by simp [Dct.emp]⟩
  · have : (cps.filter fun c => inT 0 c.1) = [] := by
      rw [List.filter_eq_nil_iff]
      intro c _
      unfold inT
      simp
    rw [this]
    rfl
  · have : lfT T cps 0 p = true := by unfold lfT; rw [tks_zero]; rfl
    rw [this]
    rfl
/-- a tick: letters, copies, the tick itself -/
theorem LIC.next {g : Prog} {s : Stand} {l : Lets} {cps : List (Int × Int)} {T : List (Tp Int)} {t : Int} {z : Car C} (hg : ProgOk g) (hs : StandOk g s) (hl : LetsOk g l) (ht : 0 ≤ t) (h : LIC g s l cps T t z)
    (hT : T.getD t.toNat ⟨[]⟩ = (tickM g (runF g s l (rng 0 t)).2.1 ((availM l t).drop (runF g s l (rng 0 t)).1.toNat)).e) : LIC g s l cps T (t + 1) (tickC (cps.foldl (cpyStep t) (l.foldl (letStep t) z))).2 ∧ CarRun g s l t t (cps.foldl (cpyStep t) (l.foldl (letStep t) z)) := by
  obtain ⟨h1, h2, h3, h4, h5, h6, h7, h8⟩ := h
  rw [lets_fold]
  obtain ⟨c1, c2, c3, c4, c5, c6, c7, c8, c9, c10, c11, c12, c13⟩ := cpy_fold t cps ({ z with wait := z.wait ++ (l.filter fun x => decide (x.1 = t)).map (·.2) } : Car C)
  generalize cps.foldl (cpyStep t) ({ z with wait := z.wait ++ (l.filter fun x => decide (x.1 = t)).map (·.2) } : Car C) = y at *
  dsimp only at c1 c2 c3 c4 c5 c6 c7 c8 c9 c10 c11 c12 c13
  have hr : CarRun g s l t t y := by
    refine ⟨c1.trans h1.gg, c2.trans h1.st, ?_, c5.trans h1.done, by rw [c4]; exact h1.sl⟩
    rw [c3, h1.wait, avail_now (t := t) hl.srt, List.drop_append_of_le_length (used_le hl.srt ht)]
  have e : tickM y.g y.st y.wait = tickM g (runF g s l (rng 0 t)).2.1 ((availM l t).drop (runF g s l (rng 0 t)).1.toNat) := by rw [hr.gg, hr.st, hr.wait]
  have hab : y.absent.l = [] := by rw [c8]; exact h4
  refine ⟨?_, hr⟩
  rw [tickC_goes (c7.trans h3) (noLack_lks (noLack_emp hab))]
  have hw := hr.went ht (run_ok hg hs hl _).2
  refine ⟨by rw [show t + 1 - 1 = t by omega]; exact hw, c6.trans h2, c7.trans h3, ?_, c9.trans h5, ?_, fun p => ?_, ?_⟩
  · show ((tickM y.g y.st y.wait).e.l.foldl Dct.del y.absent).l = []
    have := dels_len (tickM y.g y.st y.wait).e.l y.absent
    rw [hab] at this
    exact List.eq_nil_of_length_eq_zero (by simpa using this)
  · show y.made = _
    rw [c11, h6, inT_next ht]
    omega
  · show (((tickM y.g y.st y.wait).e.l.foldl Dct.del y.fresh).get? p).isSome = _
    rw [get?_delL, lf_next ht, ← h7 p, ← c12 p, e, hT]
    by_cases q : p ∈ (tickM g (runF g s l (rng 0 t)).2.1 ((availM l t).drop (runF g s l (rng 0 t)).1.toNat)).e.l
    · rw [if_pos q, decide_eq_true q]; simp
    · rw [if_neg q, decide_eq_false q]; simp
  · show (((tickM y.g y.st y.wait).e.l.foldl Dct.del y.fresh).l.length : Int) ≤ y.made
    have := dels_len (tickM y.g y.st y.wait).e.l y.fresh
    omega
/-- the trace of the run -/
def trcM (g : Prog) (s : Stand) (l : Lets) (many : Int) : List (Tp Int) := (runM g s l many).c.map fun x => x.2
theorem trc_at {g : Prog} {s : Stand} {l : Lets} {t many : Int} (ht : 0 ≤ t) (hm : t < many) : (trcM g s l many).getD t.toNat ⟨[]⟩ = (tickM g (runF g s l (rng 0 t)).2.1 ((availM l t).drop (runF g s l (rng 0 t)).1.toNat)).e := by
  obtain ⟨ys, e⟩ := rng_app (t + 1) (by omega) (many - (t + 1)).toNat
  rw [show t + 1 + (((many - (t + 1)).toNat : Nat) : Int) = many by omega] at e
  obtain ⟨zs, e2⟩ := run_app g s l (rng 0 (t + 1)) ys
  rw [← e, run_tou ht] at e2
  have hl := tou_lenI (g := g) (s := s) (l := l) ht
  unfold trcM runM
  dsimp only
  rw [e2, List.append_assoc, List.map_append, List.getD_eq_getElem?_getD, List.getElem?_append_right (by rw [List.length_map]; omega), List.length_map, show t.toNat - (runF g s l (rng 0 t)).2.2.2.length = 0 by omega]
  rfl
theorem trc_len {g : Prog} {s : Stand} {l : Lets} {many : Int} (h : 0 ≤ many) : (trcM g s l many).length = many.toNat := by
  unfold trcM
  rw [List.length_map]
  have := tou_lenI (g := g) (s := s) (l := l) h
  unfold runM
  dsimp only
  omega
theorem LIC.left {g : Prog} {s : Stand} {l : Lets} {cps : List (Int × Int)} {T : List (Tp Int)} {t : Int} {z : Car C} (h : LIC g s l cps T t z) : lfM z = leftM g.a T (cps, t) := by
  rw [left_eq]
  unfold lfM
  rw [h.run.gg]
  exact List.filter_congr fun p _ => by rw [h.fr p, Bool.not_not]
end GL
namespace GL
open PySem PySem.Spec PyProof.Rows L2
theorem lets_nn {g : Prog} {z : Pen} {ts : List Int} (h : ∀ y ∈ ts, 0 ≤ y) {x : Int × Int} (hx : x ∈ (mapX (fun st (x : Int) => (x, (penTake st g.b).1)) (fun st _ => (penTake st g.b).2) ts z).1) : 0 ≤ x.1 := by
  have e := mapX_map (e := fun st (x : Int) => (x, (penTake st g.b).1)) (step := fun st _ => (penTake st g.b).2) (f := fun x : Int × Int => x.1) (fun _ _ => rfl) ts z
  refine h x.1 ?_
  rw [← e]
  exact List.mem_map.mpr ⟨x, hx, rfl⟩
theorem tks_nn {most : Int} {z : Pen} {ts : List Int} {y : Int} (hm : 0 ≤ most) (hy : y ∈ (mapX (fun st (_ : Int) => (penTake (penTake st 2).2 (ix [3, most + 2] (penTake st 2).1)).1) (fun st _ => (penTake (penTake st 2).2 (ix [3, most + 2] (penTake st 2).1)).2) ts z).1) : 0 ≤ y :=
  mapX_all (fun y : Int => 0 ≤ y) (fun st _ => (pen_bd _ (pick2 (fun v => 0 < v) (pen_bd _ (by decide)) (by decide) (by omega))).1) ts z y hy
end GL
namespace GL
open PySem PySem.Spec PyProof.Rows L2
variable {C : Addr}
theorem avail_len {l : Lets} {t : Int} {u : Nat} : ((availM l t).drop u).length ≤ l.length := by
  rw [List.length_drop]
  unfold availM
  rw [List.length_map]
  have := List.length_filter_le (fun x : Int × Int => decide (x.1 ≤ t)) l
  omega
theorem cpy_pre {g : Prog} {s : Stand} {l L : Lets} {cps pre : List (Int × Int)} {T : List (Tp Int)} {t now : Int} {z s_ : Car C} (h : LIC g s l cps T t z) (hp : pre.length ≤ 10000) (hc : cps.length ≤ 10000) (hs : s_ = L.foldl (letStep now) z) :
    (pre.foldl (cpyStep now) s_).goal.isSome = true ∧ (pre.foldl (cpyStep now) s_).still = false ∧ (pre.foldl (cpyStep now) s_).fresh.l.length ≤ 100000 := by
  rw [hs, lets_fold]
  obtain ⟨c1, c2, c3, c4, c5, c6, c7, c8, c9, c10, c11, c12, c13⟩ := cpy_fold now pre ({ z with wait := z.wait ++ (L.filter fun x => decide (x.1 = now)).map (·.2) } : Car C)
  refine ⟨by rw [c6]; show z.goal.isSome = true; rw [h.goal]; rfl, by rw [c7]; exact h.still, ?_⟩
  have h1 := h.fl
  have h2 := h.made
  have h3 := List.length_filter_le (fun c : Int × Int => inT t c.1) cps
  have h4 := List.length_filter_le (fun c : Int × Int => decide (c.1 = now)) pre
  dsimp only at c13
  omega
end GL

/-! enumerate over a tuple. -/
namespace L2
open PySem PySem.W PySem.Spec PyProof.Rows
set_option maxHeartbeats 1000000 in
theorem meets_enumT {v : Value} {ob : Obj} {Hh : Heap → Prop} (Bg : Begins v ob Hh) :
    Meets (Builtin.«enumerate.__new__» ⟨[.type "enumerate", v], []⟩) (fun _ R s => Hh s.heap ∧
      R (.ok (.ret (.ref (s.heap.push ob).objs.size))) { s with heap := (s.heap.push ob).push { cls := .type "enumerate", data := .fields #[.none, .bool false, .ref s.heap.objs.size, rawInt 0, .none, .none] } }) :=
  .of_wp fun pr ww AA R s hyp => by
    obtain ⟨h0, g0, d0, t0, o0⟩ := s
    obtain ⟨hh1, hyp⟩ := hyp
    have hsb := sub_enumerate
    have step1 : ∀ {A1 : Around} {E1 : Value → Shared → Prop} {Q1 : Value → Shared → Prop}, Q1 (.ref h0.objs.size) ⟨h0.push ob, g0, d0, t0, o0⟩ → wpAny (model pr ww) A1 (pyIter v) Q1 E1 ⟨h0, g0, d0, t0, o0⟩ :=
      fun qq => Bg.iter pr ww _ _ ⟨h0, g0, d0, t0, o0⟩ _ hh1 qq
    wp_walk using step1
    refine wpAny_stack_any fun stk => wpAny_pure ?_
    split
    · rename_i cc _ _ _ _ _
      cases (cc == Value.type "enumerate")
      · wp_walk using step1
        exact ⟨_, rfl, hyp⟩
      · wp_walk using step1
        exact ⟨_, rfl, hyp⟩
    · wp_walk using step1
      exact ⟨_, rfl, hyp⟩
section
variable {pr : Program} {ww : World} {AA : Around} {EE : Value → Shared → Prop} {s : Shared}
theorem call_enumT {v : Value} {ob : Obj} {Hh : Heap → Prop} {Q : Value → Shared → Prop} (Bg : Begins v ob Hh) (hh1 : Hh s.heap)
    (hyp : ∀ hp, IsEnum hp (s.heap.objs.size + 1) s.heap.objs.size 0 .none → hp.get? s.heap.objs.size = some ob → hp.objs.size = s.heap.objs.size + 2 →
      (∀ b q, s.heap.get? b = some q → hp.get? b = some q) → Q (.ref (s.heap.objs.size + 1)) { s with heap := hp }) : wpAny (model pr ww) AA (call (.type "enumerate") [v]) Q EE s := by
  refine callType_new F.called_enumerate (by decide) (F.typeCall_enumerate_1 _) (F.newCall_enumerate_1 _) (fun oj => F.args_object_init_2 oj _) F.entry_enumerate_new (meets_enumT Bg) ⟨hh1, ?_⟩
  have zs : (s.heap.push ob).objs.size = s.heap.objs.size + 1 := Heap.size_push ..
  show _ ∧ _
  rw [zs]
  have en : IsEnum ((s.heap.push ob).push { cls := .type "enumerate", data := .fields #[.none, .bool false, .ref s.heap.objs.size, rawInt 0, .none, .none] }) (s.heap.objs.size + 1) s.heap.objs.size 0 .none := by
    have z2 := Heap.get?_push_size (s.heap.push ob) (o := { cls := .type "enumerate", data := .fields #[.none, .bool false, .ref s.heap.objs.size, rawInt 0, .none, .none] }) rfl
    rw [zs] at z2; exact z2
  refine ⟨⟨_, en, rfl⟩, hyp _ en (Heap.get?_push_of_some _ (Heap.get?_push_size _ Bg.free)) (by rw [Heap.size_push, zs]) fun b q y => Heap.get?_push_of_some _ (Heap.get?_push_of_some _ y)⟩
theorem next_enumT_end {e it t : Addr} {i : Nat} {items : Array Value} {c : Int} {old : Value} {Q : Option Value → Shared → Prop} (hh : AA.handled = none) (he : IsEnum s.heap e it c old) (hit : s.heap.IsTupleIter it t i) (ht : s.heap.IsTuple t items) (hx : items[i]? = none)
    (hQ : ∀ hp, Heap.ExtBut it s.heap hp → Q none { s with heap := hp }) : wpAny (model pr ww) AA (pyNext (.ref e)) Q EE s := by
  have tyE : s.TypeIs (.ref e) "enumerate" := ⟨_, he, rfl⟩
  unfold pyNext
  refine wpAny_bind (wpAny_attempt (wpAny_callSpecial?_slot (name := Str.ofString "__next__") tyE F.slot_enumerate_next (wpAny_call_entry F.slot_enumerate_next tyE F.entry_enumerate_next ?_ (F.args_enumerate_next_1 _))))
  show wpAny _ _ (field (.ref e) 2 >>= _) _ _ _
  refine wpAny_bind (wpAny_field he rfl (x := .ref it) rfl ?_)
  refine wpAny_bind (wpAny_nextOf_tuple_end (A := AA.in1) hh hit ht hx fun hp x xb so => ?_)
  obtain ⟨ob, gb, cb⟩ := so
  exact wpAny_bind (wpAny_isInstance (T := "StopIteration") (b := true) ⟨ob, gb, cb⟩ isSubtype_stop (wpAny_pure (hQ _ xb)))
end
/-- the tuple at a, each item in a new pair -/
def IteT (K : PySem.W.Frag) (a : Addr) (ws : List V) : It :=
  ⟨fun i H => SqT K H a ws ∧ ∃ x, ws[i]? = some x, fun i H v H' => ∃ T x, v = .ref T ∧ H T = none ∧ H' = upd H T (.tup [.int (i : Nat), x]) ∧ ws[i]? = some x, fun i H => SqT K H a ws ∧ ws.length ≤ i⟩
theorem turn_enumT {P : Program} {w : World} {K : PySem.W.Frag} {elts : List Expr} {kk : Nat} {tpos : Pos} (a e it : Addr) (ws : List V) :
    Turn P w K (.Tuple elts kk tpos) (IteT K a ws) [e, it] e (fun i h => (∃ old, IsEnum h e it ((i : Nat) : Int) old) ∧ h.IsTupleIter it a i ∧ e ≠ it ∧ e ≠ a ∧ a ≠ it) where
  mem := by simp
  obj := fun i h st b hb => by
    obtain ⟨⟨old, he⟩, ⟨oi, gi, ci, di⟩, _⟩ := st
    rcases (show b = e ∨ b = it by simpa using hb) with z | z
    · rw [z]; exact ⟨_, he, fun v q => nomatch q⟩
    · rw [z]; exact ⟨oi, gi, fun v q => by rw [di] at q; cases q⟩
  keep := fun i h h' st k => by
    obtain ⟨⟨old, he⟩, hi, n1, n2, n3⟩ := st
    exact ⟨⟨old, k e (by simp) _ he⟩, hi.at fun q y => k it (by simp) q y, n1, n2, n3⟩
  item := by
    intro X pP pw pK hc i pins s σ H E I hf st hg
    subst pP pw pK
    obtain ⟨⟨old, he⟩, hit, n1, n2, n3⟩ := st
    obtain ⟨hq, x, hx⟩ := hg
    obtain ⟨its, rv, ip, hz⟩ := I.tuple hq
    obtain ⟨u, hu, ru⟩ := rv.get hx
    have le_e : e < s.heap.objs.size := Heap.lt_size he
    have le_i : it < s.heap.objs.size := by obtain ⟨_, y, _⟩ := hit; exact Heap.lt_size y
    have lti : i < its.toArray.size := by
      have := (List.getElem?_eq_some_iff.mp hu).1
      simpa using this
    refine wpAny_pyNext_enum_itemD (Draws.tuple (A := X.A.in1) (I.ok.hd hc) it a n3 its.toArray) he ⟨hit, ip⟩ lti n1 (by simp [n1, n2]) fun v hp tk pv eo st2 gT sz kp => ?_
    have ev : v = u := by
      have e1 : its[i]? = some v := by simpa using pv
      rw [hu] at e1
      exact (Option.some.inj e1).symm
    subst ev
    refine ⟨_, rfl, wpAny_letOwnedTupleGo_enum (s := { s with heap := hp, toks := tk + 1 }) eo fun hq2 he2 sb => ?_⟩
    have gT2 : hq2.get? s.heap.objs.size = some { cls := .type "tuple", data := .seq #[.int i tk, v] } := (sb.2 _ (Nat.ne_of_gt le_e)).trans gT
    have okT : ObjOk X.prog X.w (upd H s.heap.objs.size (.tup [.int (i : Nat), x])) hq2 s.heap.objs.size (.tup [.int (i : Nat), x]) :=
      ⟨by show 2 ≤ sizeLine; decide, [.int i tk, v], .cons ⟨_, rfl⟩ (.cons ru .nil), ⟨_, gT2, rfl, _, rfl⟩⟩
    have I1 : Inv X pins σ (upd H s.heap.objs.size (.tup [.int (i : Nat), x])) { s with heap := hq2, toks := tk + 1 } :=
      I.turnedNew (ch := [e, it]) (fun b ob hb y => (sb.2 b (fun z => hb (by simp [z]))).trans (kp b ob (fun z => hb (by simp [z])) (fun z => hb (by simp [z])) y)) hf (Nat.le_refl _) okT
    refine ⟨.ref s.heap.objs.size, _, I1, rfl, ⟨_, x, rfl, I.hok.fresh (Nat.le_refl _), rfl, hx⟩, ⟨⟨v, ?_⟩, st2.1.at fun q y => (sb.2 it n1.symm).trans y, n1, n2, n3⟩, fun b hb => ?_⟩
    · rw [show ((i + 1 : Nat) : Int) = (i : Int) + 1 by omega]; exact he2
    · have lb : b < s.heap.objs.size := by
        rcases (show b = e ∨ b = it by simpa using hb) with z | z
        · rw [z]; exact le_e
        · rw [z]; exact le_i
      rw [upd_ne (Nat.ne_of_lt lb)]
      exact (hf b hb).1
  done := by
    intro X pP pw pK hc i pins s σ H E I hf st hg
    subst pP pw pK
    obtain ⟨⟨old, he⟩, hit, n1, n2, n3⟩ := st
    obtain ⟨hq, hx⟩ := hg
    obtain ⟨its, rv, ip, hz⟩ := I.tuple hq
    obtain ⟨f0, f1, f2, f3, f4, f5⟩ := hf it (by simp)
    have ll := rv.length
    exact next_enumT_end (I.ok.hd hc) he hit ip (by simp; omega) fun hp xb => ⟨rfl, I.turned (t' := s.toks) (fun b q hb y => xb b q hb y) f0 f1 f3 f4 f5⟩
  self := fun A i s Q E st h => by
    obtain ⟨⟨_, he⟩, _⟩ := st
    exact wpAny_pyIter_enum he h
def iEnumT (K : PySem.W.Frag) (ta : TA) : TI := fun σ H R => ta σ H fun vs H1 => ∃ a ws, vs = [.ref a] ∧ SqT K H1 a ws ∧ R (IteT K a ws) H1
theorem pi_enumT {X : Cx} {e : Expr} {ta : TA} {p pos tpos : Pos} {elts : List Expr} {kk : Nat} (hg : Gl X "enumerate") (hm : X.mg "enumerate" = none) (ha : PA X [e] ta) (hs : starEach [e] X.env = [(false, eval e X.env)] := by rfl) :
    PI X (.Tuple elts kk tpos) (.Call (.Name "enumerate" p) [e] [] pos) (iEnumT X.K ta) := by
  refine ⟨fun pins s σ H R I h => ?_⟩
  refine Call_ (ld_blt I hg hm boot_enumerate (PyProof.Rows.callWith_type1 (thn (ha.run pos pins s σ H _ I h) fun us s1 ⟨vs, H1, I1, r1, q1⟩ => ?_) hs rfl))
  obtain ⟨a, ws, rfl, hq, q⟩ := q1
  cases r1 with
  | cons r rr =>
    cases rr
    cases r
    obtain ⟨its, rv, ip, hz⟩ := I1.tuple hq
    have la : a < s1.heap.objs.size := by
      obtain ⟨o, go, _⟩ := (show s1.heap.IsTuple a its.toArray from ip)
      exact Heap.lt_size go
    refine call_enumT (begins_tuple a its.toArray) ip fun hp he gi sz kp => wpAny_pyIter_enum he ?_
    have I2 : Inv X pins σ H1 { s1 with heap := hp } := I1.kept (t' := s1.toks) kp
    refine ⟨s1.heap.objs.size + 1, [s1.heap.objs.size + 1, s1.heap.objs.size], _, _, H1, rfl, I2, turn_enumT a (s1.heap.objs.size + 1) s1.heap.objs.size ws, ⟨⟨.none, he⟩, ⟨_, gi, rfl, rfl⟩, Nat.succ_ne_self _, Nat.ne_of_gt (Nat.lt_succ_of_lt la), Nat.ne_of_lt la⟩, fun b hb => ?_, q⟩
    have lb : s1.heap.objs.size ≤ b := by
      rcases (show b = s1.heap.objs.size + 1 ∨ b = s1.heap.objs.size by simpa using hb) with z | z
      · rw [z]; exact Nat.le_add_right _ _
      · rw [z]; exact Nat.le_refl _
    exact I1.fpOk lb (I1.hok.fresh lb)
end L2
namespace GL
open PySem PySem.Spec PyProof.Rows L2
section
variable {α : Type} [Py α] {K : Fg} {G G1 : List Sl} {ta : TE}
theorem wk_enumT {S : Hp} {p : Addr} {vs : List V} {xs : List α} (hp : SqT K S p vs) (r : RepL K S vs xs) : Wk K (IteT K p vs) S (enumI xs) := fun S' H' i e1 e2 => by
  have h1 : SqT K H' p vs := seqT e2 (seqT e1 hp)
  have hlen : (enumI xs).length = xs.length := by unfold enumI; rw [List.length_map, List.length_zipIdx]
  refine ⟨fun x hx => ?_, fun hl => ⟨h1, by rw [r.len, ← hlen]; exact hl⟩⟩
  have hi : i < xs.length := by
    rw [← hlen]
    exact (List.getElem?_eq_some_iff.mp hx).1
  have ex : x = ((i : Int), xs[i]) := by
    unfold enumI at hx
    rw [List.getElem?_map, List.getElem?_zipIdx, List.getElem?_eq_getElem hi] at hx
    simpa using hx.symm
  subst ex
  obtain ⟨v, hv, rv⟩ := r.get (List.getElem?_eq_getElem hi)
  refine ⟨⟨h1, v, hv⟩, fun w H'' y => ?_⟩
  obtain ⟨T, u, rfl, hT, rfl, e⟩ := y
  rw [hv] at e
  cases e
  have g := Grow.new (o := .tup [.int (i : Nat), v]) e2 hT
  exact ⟨_, g, T, _, v, rfl, SqT.of upd_same, rfl, Py.mono (e1.trans g.s) rv⟩
theorem it_enumT {xs : Tp α} (h : EvX K ta G xs G1) : ItG K (iEnumT K (tCons ta tNil)) G (enumI xs.l) G1 := fun B S0 S σ H F k R q =>
  h B S0 S σ H F k _ fun v S1 H1 e1 k1 r1 => by
    obtain ⟨p, vs, rfl, hp, hr⟩ := r1
    exact ⟨p, vs, rfl, seqT k1.sub hp, q _ S1 H1 e1 k1 (wk_enumT hp hr)⟩
end
end GL

namespace GL
open PySem PySem.Spec PyProof.Rows L2
variable {C : Addr}
/-! ### the law's own look at what is left -/
theorem cut_last (xs : List Int) : cutL xs (some (-1)) none = match xs.getLast? with | none => [] | some x => [x] := by
  rcases List.eq_nil_or_concat xs with q | ⟨i, l, q⟩
  · subst q; rfl
  · have q' : xs = i ++ [l] := by rw [q]; simp
    rw [q']
    have e : (i ++ [l]).getLast? = some l := by simp
    rw [e]
    unfold cutL
    rw [HT.sIx_none]
    have h : HT.sIx (i ++ [l]).length 0 (some (-1)) = i.length := by
      unfold HT.sIx
      simp
      omega
    rw [h, List.drop_left']
    · simp
    · rfl
@[irreducible] def lawLeft (n : Int) (tou : Tou) (cps : List (Int × Int)) : List Int := (rng 0 n).filter fun p => !freshB cps tou p
theorem lawLeft_fold {n : Int} {tou : Tou} {cps : List (Int × Int)} : lawLeft n tou cps = (rng 0 n).filter fun p => !freshB cps tou p := by unfold lawLeft; rfl
theorem last_eq {cps : List (Int × Int)} {p : Int} : cutL ((cps.filter (fun x => decide (x.2 = p))).map (fun x => x.1)) (some (-1)) none = match lastC cps p with | none => [] | some k => [k] := cut_last _
theorem left_none {cps : List (Int × Int)} {tou : Tou} {p : Int} {last : List Int} (h : last = match lastC cps p with | none => [] | some k => [k]) (h0 : decide (last = []) = true) : freshB cps tou p = false := by
  unfold freshB
  cases e : lastC cps p with
  | none => rfl
  | some k => rw [e] at h; rw [h] at h0; exact absurd (of_decide_eq_true h0) (by simp)
theorem left_some {cps : List (Int × Int)} {p : Int} {last : List Int} (h : last = match lastC cps p with | none => [] | some k => [k]) (h0 : decide (last = []) = false) : lastC cps p = some (ix last 0) ∧ last.length = 1 := by
  cases e : lastC cps p with
  | none => rw [e] at h; rw [h] at h0; exact absurd rfl (of_decide_eq_false h0)
  | some k => rw [e] at h; rw [h]; exact ⟨rfl, rfl⟩
theorem left_test {cps : List (Int × Int)} {tou : Tou} {p k : Int} (h : lastC cps p = some k) : freshB cps tou p = decide (((rng k tou.length).filter (fun x => decide (p ∈ (ix tou x).2.l))).map (fun x => x) = []) := by
  unfold freshB
  rw [h]
  dsimp only
  rw [List.map_id']
  cases (rng k tou.length).filter (fun x => decide (p ∈ (ix tou x).2.l)) <;> simp
/-! ### the law -/
theorem LetsOk.nil (g : Prog) : LetsOk g [] := ⟨.nil, (fun x h => nomatch h), Nat.zero_le _⟩
theorem CarRun.start {g : Prog} {s : Stand} {l : Lets} {av : Int} {z : Car C} (h1 : z.g = g) (h2 : z.st = s) (h3 : z.wait = availM l av) (h4 : z.done = 0) (h5 : z.said = []) : CarRun g s l 0 av z :=
  ⟨h1, by rw [rng_nil (Int.le_refl _), run_nil]; exact h2, by rw [rng_nil (Int.le_refl _), run_nil]; simpa using h3, h4, by rw [h5]; simp⟩
theorem CarRun.av {g : Prog} {s : Stand} {t a b : Int} {z : Car C} (h : CarRun g s [] t a z) : CarRun g s [] t b z := ⟨h.gg, h.st, h.wait, h.done, h.sl⟩
structure LI48 (g : Prog) (s : Stand) (t : Int) (cps : List (Int × Int)) (z : Car C) : Prop where
  run : CarRun g s [] t t z
  go : Going 1 cps (runF g s [] (rng 0 t)).2.2.2 z
  cp : ∀ c ∈ cps, 0 ≤ c.1 ∧ c.1 ≤ t
  pl : z.place = 0
theorem LI48.start {g : Prog} {s : Stand} {z z' : Car C} (h : ∃ a w s_ f b, z = Car.mk a w s_ f b g s 2 0 [] [] 0 none false Dct.emp 0 Dct.emp) (hb : BegR z 1 z') : LI48 g s 0 [] z' := by
  obtain ⟨a, w, s_, f, b, rfl⟩ := h
  obtain ⟨f', rfl⟩ := hb
  refine ⟨CarRun.start rfl rfl rfl rfl rfl, ⟨rfl, rfl, rfl, rfl, fun p => ?_, Nat.le_refl _⟩, (fun c h => nomatch h), rfl⟩
  rfl
theorem LI48.copy {g : Prog} {s : Stand} {t p : Int} {cps : List (Int × Int)} {z : Car C} (h : LI48 g s t cps z) (ht : 0 ≤ t) : LI48 g s t (cps ++ [(t, p)]) (copyC z p) := by
  obtain ⟨h1, h2, h3, h4⟩ := h
  refine ⟨?_, h2.copy (tou_lenI ht).symm, fun c hc => ?_, ?_⟩
  · unfold copyC; exact ⟨h1.gg, h1.st, h1.wait, h1.done, h1.sl⟩
  · rcases List.mem_append.mp hc with q | q
    · exact h3 c q
    · rw [List.mem_singleton.mp q]; exact ⟨ht, Int.le_refl _⟩
  · unfold copyC; exact h4
theorem LI48.tick {g : Prog} {s : Stand} {t : Int} {cps : List (Int × Int)} {z : Car C} (h : LI48 g s t cps z) (hg : ProgOk g) (hs : StandOk g s) (ht : 0 ≤ t) : LI48 g s (t + 1) cps (tickC z).2 := by
  obtain ⟨h1, h2, h3, h4⟩ := h
  obtain ⟨q1, q2, q3, q4⟩ := go_tick hs hg (LetsOk.nil g) ht h1 h2 h3
  exact ⟨q1.av, q2, fun c hc => by have := h3 c hc; omega, by rw [q4]; exact h4⟩
theorem LI48.left {g : Prog} {s : Stand} {t : Int} {cps : List (Int × Int)} {z : Car C} (h : LI48 g s t cps z) : lfM z = lawLeft g.a (runM g s [] t).c cps := by
  rw [lf_eq h.go, h.run.gg, lawLeft_fold]
  unfold runM
  rfl
theorem lf_still (z : Car C) : lfM (stillC z) = lfM z := by unfold lfM stillC; rfl
theorem puts_get : ∀ (l : List Int) (d : Dct Bool) (p : Int), ((l.foldl (fun d p => d.put p true) d).get? p).isSome = (decide (p ∈ l) || (d.get? p).isSome)
  | [], d, p => by simp
  | q :: l, d, p => by
    rw [List.foldl_cons, puts_get l, Dct.get?_put]
    by_cases e : p = q
    · rw [if_pos e]; simp [e]
    · rw [if_neg e]; simp [e]
/-- behind the stop and the end, or the early one -/
structure Over (g : Prog) (s : Stand) (t : Int) (left : List Int) (early : Bool) (z : Car C) : Prop where
  run : CarRun g s [] t t z
  st : z.still = false
  pl : z.place = 1
  ab : ∀ p, (z.absent.get? p).isSome = (early && decide (p ∈ left))
theorem over_mk {g : Prog} {s : Stand} {t : Int} {cps : List (Int × Int)} {left : List Int} {z : Car C} (h : LI48 g s t cps z) (hl : left = lfM z) (early : Bool) : Over g s t left early (if early = true then goesC (lackC (stillC z) left) else goesC (stillC z)) := by
  obtain ⟨h1, h2, h3, h4⟩ := h
  obtain ⟨g1, g2, g3, g4, g5, g6⟩ := h2
  cases early with
  | true =>
    rw [if_pos rfl]
    unfold goesC lackC stillC
    refine ⟨⟨h1.gg, h1.st, h1.wait, h1.done, h1.sl⟩, rfl, ?_, fun p => ?_⟩
    · show z.goal.getD default = 1
      rw [g1]; rfl
    · show ((left.foldl (fun d p => d.put p true) z.absent).get? p).isSome = _
      rw [puts_get, noLack_emp g3 p]
      simp
  | false =>
    rw [if_neg (by decide)]
    unfold goesC stillC
    refine ⟨⟨h1.gg, h1.st, h1.wait, h1.done, h1.sl⟩, rfl, ?_, fun p => ?_⟩
    · show z.goal.getD default = 1
      rw [g1]; rfl
    · show (z.absent.get? p).isSome = _
      rw [noLack_emp g3 p]
      rfl
theorem nil_drop {l : List Int} {n : Nat} (h : l = []) : l.drop n = [] := by rw [h]; simp
theorem CarRun.wait0 {g : Prog} {s : Stand} {t a : Int} {z : Car C} (h : CarRun g s [] t a z) : z.wait = [] := by rw [h.wait]; simp [availM]
/-- what the next tick reads -/
theorem lks_reads {g : Prog} {s : Stand} {t : Int} {z : Car C} (h : CarRun g s [] t t z) (ht : 0 ≤ t) : lksM z = ((ix (runM g s [] (t + 1)).c t).1.l).filter fun p => (z.absent.get? p).isSome := by
  have e : (ix (runM g s [] (t + 1)).c t).1 = (tickM z.g z.st z.wait).d := by
    unfold runM
    dsimp only
    rw [run_tou ht]
    have hl := tou_lenI (g := g) (s := s) (l := []) ht
    have e2 : ix ((runF g s [] (rng 0 t)).2.2.2 ++ [((tickM g (runF g s [] (rng 0 t)).2.1 ((availM [] t).drop (runF g s [] (rng 0 t)).1.toNat)).d, (tickM g (runF g s [] (rng 0 t)).2.1 ((availM [] t).drop (runF g s [] (rng 0 t)).1.toNat)).e)]) t = ((tickM g (runF g s [] (rng 0 t)).2.1 ((availM [] t).drop (runF g s [] (rng 0 t)).1.toNat)).d, (tickM g (runF g s [] (rng 0 t)).2.1 ((availM [] t).drop (runF g s [] (rng 0 t)).1.toNat)).e) := by
      unfold ix
      rw [List.getD_eq_getElem?_getD, List.getElem?_append_right (by omega), show t.toNat - (runF g s [] (rng 0 t)).2.2.2.length = 0 by omega]
      rfl
    rw [e2, h.gg, h.st, h.wait]
  rw [e, h.wait0]
  unfold lksM
  cases hr : rowAtM z.g z.st with
  | none => unfold tickM; rw [hr]; rfl
  | some r =>
    unfold tickM
    rw [hr]
    dsimp only
    split
    · rename_i hc
      have := (Bool.and_eq_true_iff.mp hc).1
      cases r <;> first | rfl | exact absurd this Bool.false_ne_true
    · rfl
structure BrI (z0 : Car C) (pre : List Int) (z : Car C) : Prop where
  eq : ∃ d, z = { z0 with absent := d }
  ab : ∀ p, (z.absent.get? p).isSome = ((z0.absent.get? p).isSome && !decide (p ∈ pre))
theorem BrI.start (z : Car C) : BrI z [] z := ⟨⟨z.absent, rfl⟩, fun p => by simp⟩
theorem BrI.step {z0 z : Car C} {pre : List Int} {p : Int} (h : BrI z0 pre z) : BrI z0 (pre ++ [p]) (bringC z p) := by
  obtain ⟨⟨d, rfl⟩, h2⟩ := h
  unfold bringC
  refine ⟨⟨_, rfl⟩, fun q => ?_⟩
  show ((d.del p).get? q).isSome = _
  have h3 : (d.get? q).isSome = _ := h2 q
  rw [Dct.get?_del]
  by_cases e : q = p
  · rw [if_pos e]; simp [e]
  · rw [if_neg e, h3]; simp [e]
theorem Over.bring {g : Prog} {s : Stand} {t : Int} {left : List Int} {early : Bool} {z z' : Car C} {L : List Int} (h : Over g s t left early z) (hL : L = (List.replicate (if early = true then (1 : Int) else 0).toNat left).flatten) (k : BrI z L z') : CarRun g s [] t t z' ∧ z'.still = false ∧ z'.place = 1 ∧ NoLack z' := by
  obtain ⟨h1, h2, h3, h4⟩ := h
  obtain ⟨⟨d, rfl⟩, k2⟩ := k
  refine ⟨⟨h1.gg, h1.st, h1.wait, h1.done, h1.sl⟩, h2, h3, fun p => ?_⟩
  rw [k2 p, h4 p, hL]
  cases early with
  | true => simp
  | false => simp
end GL
namespace GL
open PySem PySem.Spec PyProof.Rows L2
variable {C : Addr}
theorem lastI_snocA {α : Type} [Inhabited α] (xs : List α) (x : α) : lastI (xs ++ [x]) = x := by
  unfold lastI ix
  rw [List.length_append, List.length_singleton, List.getD_eq_getElem?_getD, show (((xs.length + 1 : Nat) : Int) - 1).toNat = xs.length by omega, List.getElem?_append_right (Nat.le_refl _), Nat.sub_self]
  rfl
end GL
namespace GL
open PySem PySem.Spec PyProof.Rows L2
variable {C : Addr}
theorem still_st (z : Car C) : (stillC z).still = true := by unfold stillC; rfl
theorem still_ok {z : Car C} (h : CarOk z) : CarOk (stillC z) := by unfold stillC; exact ⟨h.g, h.s, h.l, h.wl, h.sl⟩
theorem still_made (z : Car C) : (stillC z).made = z.made := by unfold stillC; rfl
theorem tickC_ok (z : Car C) : Dq.ok (tickC z).1 := by
  show (PyData.str (tickC z).1.w).canLay0 = true
  unfold tickC
  split
  · show (PyData.str (Str.ofString "still")).canLay0 = true; decide +kernel
  split
  · show (PyData.str (Str.ofString "lacks")).canLay0 = true; decide +kernel
  · exact tick_wok2
where
  tick_wok2 {g : Prog} {s : Stand} {l : List Int} : (PyData.str (tickM g s l).b).canLay0 = true := by
    refine tick_cases (fun t => (PyData.str t.b).canLay0 = true) (fun _ => by show (PyData.str (Str.ofString "ended")).canLay0 = true; decide +kernel) (fun _ _ _ => by show (PyData.str (Str.ofString "waits")).canLay0 = true; decide +kernel) fun r _ _ => ?_
    cases r with
    | set p v => show (PyData.str (Str.ofString "did")).canLay0 = true; decide +kernel
    | add p v => show (PyData.str (Str.ofString "did")).canLay0 = true; decide +kernel
    | jump p v => show (PyData.str (Str.ofString "did")).canLay0 = true; decide +kernel
    | say p => show (PyData.str (Str.ofString "said")).canLay0 = true; decide +kernel
    | take p => show (PyData.str (Str.ofString "took")).canLay0 = true; decide +kernel
    | fin => show (PyData.str (Str.ofString "did")).canLay0 = true; decide +kernel
theorem tw_still : Dq.ok (Tw.mk (Str.ofString "still") []) := by show (PyData.str (Str.ofString "still")).canLay0 = true; decide +kernel
theorem tw_lacks (r : List (Option Int)) : Dq.ok (Tw.mk (Str.ofString "lacks") r) := by show (PyData.str (Str.ofString "lacks")).canLay0 = true; decide +kernel
theorem early_pre {g : Prog} {s : Stand} {t : Int} {cps : List (Int × Int)} {z : Car C} (h : LI48 g s t cps z) (hg : ProgOk g) : (((stillC z).goal.isSome = true ∧ (stillC z).still = true) ∧ 0 ≤ (stillC z).g.a ∧ (stillC z).g.a ≤ 1000) ∧ (stillC z).absent.l.length ≤ 100000 := by
  have h1 := hg.n0
  have h2 := hg.n1
  unfold stillC
  refine ⟨⟨⟨by show z.goal.isSome = true; rw [h.go.goal]; rfl, rfl⟩, by show 0 ≤ z.g.a; rw [h.run.gg]; omega, by show z.g.a ≤ 1000; rw [h.run.gg]; omega⟩, by show z.absent.l.length ≤ 100000; rw [h.go.ab]; simp⟩
theorem stop_pre {g : Prog} {s : Stand} {t : Int} {cps : List (Int × Int)} {z : Car C} (h : LI48 g s t cps z) (hg : ProgOk g) : (z.goal.isSome = true ∧ z.still = false) ∧ 0 ≤ z.g.a ∧ z.g.a ≤ 1000 := by
  have h1 := hg.n0
  have h2 := hg.n1
  exact ⟨⟨by rw [h.go.goal]; rfl, h.go.still⟩, by rw [h.run.gg]; omega, by rw [h.run.gg]; omega⟩
theorem reads_few {g : Prog} {s : Stand} {t : Int} (hg : ProgOk g) (hs : StandOk g s) (ht : 0 ≤ t) : (ix (runM g s [] (t + 1)).c t).1.l.length ≤ 2 := by
  have h : ix (runM g s [] (t + 1)).c t ∈ (runM g s [] (t + 1)).c := ix_mem ht (by rw [(runM_ok hg hs (LetsOk.nil g)).2.2]; omega)
  unfold runM at h ⊢
  exact (tou_len _ _ h).1
theorem rep01 {early : Bool} {left : List Int} {p : Int} (h : p ∈ (List.replicate (if early = true then (1 : Int) else 0).toNat left).flatten) : early = true ∧ p ∈ left := by
  cases early with
  | true => exact ⟨rfl, by simpa using h⟩
  | false => simp at h
theorem bring_pre {g : Prog} {s : Stand} {t : Int} {left : List Int} {early : Bool} {z z' : Car C} {pre post : List Int} {p : Int} (h : Over g s t left early z) (hn : left.Nodup) (ex : pre ++ p :: post = (List.replicate (if early = true then (1 : Int) else 0).toNat left).flatten) (k : BrI z pre z') : (z'.absent.get? p).isSome = true := by
  have hm := rep01 (p := p) (early := early) (left := left) (by rw [← ex]; simp)
  have hp : p ∉ pre := by
    rw [hm.1] at ex
    have e2 : pre ++ p :: post = left := by simpa using ex
    rw [← e2] at hn
    intro hq
    exact (List.nodup_append.mp hn).2.2 p hq p List.mem_cons_self rfl
  rw [k.ab p, h.ab p, hm.1]
  simp [hm.2, hp]
theorem lawLeft_nd {n : Int} {tou : Tou} {cps : List (Int × Int)} : (lawLeft n tou cps).Nodup := by
  rw [lawLeft_fold]
  exact (rng_nodup 0 n).filter _
theorem lawLeft_len {n : Int} {tou : Tou} {cps : List (Int × Int)} : (lawLeft n tou cps).length ≤ n.toNat := by
  rw [lawLeft_fold]
  refine Nat.le_trans (List.length_filter_le _ _) ?_
  rw [len_rng]
  omega
theorem fin48 {g : Prog} {s : Stand} {t : Int} {z : Car C} (h : CarRun g s [] t t z) (h0 : z.still = false) (hl : NoLack z) (hp : z.place = 1) (ht : 0 ≤ t) (hg : ProgOk g) (hs : StandOk g s) : (tickC z).2.st = (runM g s [] (t + 1)).a ∧ (tickC z).2.place = 1 := by
  rw [tickC_goes h0 (noLack_lks hl)]
  refine ⟨?_, hp⟩
  have k := h.went ht (run_ok hg hs (LetsOk.nil g) _).2
  unfold runM
  exact k.st
end GL

namespace GL
open PySem PySem.Spec PyProof.Rows L2
variable {C : Addr}
/-! ### traces of runs -/
theorem writes_bd {g : Prog} {s : Stand} {l : List Int} {p : Int} (hg : ProgOk g) (hs : StandOk g s) (h : p ∈ (tickM g s l).e.l) : 0 ≤ p ∧ p < g.a := by
  revert h
  refine tick_cases (fun t => p ∈ t.e.l → 0 ≤ p ∧ p < g.a) (fun _ h => nomatch h) (fun _ _ _ h => nomatch h) fun r hr _ h => ?_
  obtain ⟨q1, q2, q3, q4⟩ := tick_row hg hs hr
  cases r with
  | set p v => rw [List.mem_singleton.mp h]; exact q4.1
  | add p q => rw [List.mem_singleton.mp h]; exact q4.1
  | jump p q => exact nomatch h
  | say p => exact nomatch h
  | take p => rw [List.mem_singleton.mp h]; exact q4
  | fin => exact nomatch h
theorem trc_mem {g : Prog} {s : Stand} {l : Lets} {many : Int} (hg : ProgOk g) (hs : StandOk g s) (hl : LetsOk g l) (h0 : 0 ≤ many) {r : Tp Int} (h : r ∈ trcM g s l many) : r.l.length ≤ 1 ∧ ∀ p ∈ r.l, 0 ≤ p ∧ p < g.a := by
  obtain ⟨k, hk⟩ := List.getElem?_of_mem h
  have hlt := (List.getElem?_eq_some_iff.mp hk).1
  rw [trc_len h0] at hlt
  have e := trc_at (g := g) (s := s) (l := l) (t := (k : Int)) (many := many) (by omega) (by omega)
  rw [Int.toNat_natCast, List.getD_eq_getElem?_getD, hk] at e
  have e2 : r = _ := e
  rw [e2]
  exact ⟨tick_rl.2, fun p hp => writes_bd hg (run_ok hg hs hl _).1 hp⟩
theorem lastN_congrR {T T' : List (Tp Int)} {p : Int} : ∀ m : Nat, (∀ k : Nat, k < m → T.getD k ⟨[]⟩ = T'.getD k ⟨[]⟩) → lastN T m p = lastN T' m p
  | 0, _ => rfl
  | m + 1, h => by
    rw [lastN, lastN, h m (Nat.lt_succ_self m), lastN_congrR m fun k hk => h k (by omega)]
theorem left_trc {g : Prog} {s : Stand} {l : Lets} {n t m1 m2 : Int} {cps : List (Int × Int)} (h0 : 0 ≤ t) (h1 : t ≤ m1) (h2 : t ≤ m2) : leftM n (trcM g s l m1) (cps, t) = leftM n (trcM g s l m2) (cps, t) := by
  rw [left_eq, left_eq]
  refine List.filter_congr fun p _ => ?_
  unfold lfT lastW
  rw [lastN_congrR (T := trcM g s l m1) (T' := trcM g s l m2) t.toNat fun k hk => by
    have e1 := trc_at (g := g) (s := s) (l := l) (t := (k : Int)) (many := m1) (by omega) (by omega)
    have e2 := trc_at (g := g) (s := s) (l := l) (t := (k : Int)) (many := m2) (by omega) (by omega)
    rw [Int.toNat_natCast] at e1 e2
    rw [e1, e2]]
/-! ### copies of rounds -/
def cpsR (b : Int) (r : Int × Tp Int) : List (Int × Int) := (enumI r.2.l).map fun x => (r.1 + x.1 / b, x.2)
def cpsOf (b : Int) (told : List (Int × Tp Int)) : List (Int × Int) := told.flatMap (cpsR b)
theorem cpsOf_snoc (b : Int) (told : List (Int × Tp Int)) (r : Int × Tp Int) : cpsOf b (told ++ [r]) = cpsOf b told ++ cpsR b r := by
  unfold cpsOf
  rw [List.flatMap_append]
  simp
theorem cpsR_bd {b tick : Int} {due : List Int} {c : Int × Int} (hb : 1 ≤ b) (h : c ∈ cpsR b (tick, ⟨due⟩)) : tick ≤ c.1 ∧ c.1 < tick + ((due.length : Int) + b - 1) / b := by
  obtain ⟨x, hx, e⟩ := List.mem_map.mp h
  have h2 := mem_enumI.mp hx
  have h3 := (List.getElem?_eq_some_iff.mp h2.2).1
  rw [← e]
  dsimp only at h3 ⊢
  have hx0 := h2.1
  have d0 : 0 ≤ x.1 / b := Int.ediv_nonneg hx0 (by omega)
  refine ⟨by omega, ?_⟩
  have : ¬ ((due.length : Int) + b - 1) / b ≤ x.1 / b := fun z => by
    have q := (ceil_le (n := (due.length : Int)) (b := b) (j := x.1 / b) (by omega)).mp z
    have q2 : b * (x.1 / b) ≤ x.1 := Int.mul_ediv_self_le (by omega)
    omega
  omega
end GL
namespace GL
open PySem PySem.Spec PyProof.Rows L2
variable {C : Addr}
/-- a round's copies, put one by one -/
theorem cop_round {b tick stop : Int} {old : List (Int × Int)} {cop : Dct Int} (hb : 1 ≤ b) (h0 : 0 ≤ tick) (ho : ∀ c ∈ old, 0 ≤ c.1 ∧ c.1 < tick) (hc : ∀ x, cop.get? x = (copM old tick).get? x) (W : List Int) (hw : tick + ((W.length : Int) + b - 1) / b ≤ stop) (hs : tick ≤ stop) :
    ∀ x, ((enumI W).foldl (rdCop b tick) cop).get? x = (copM (old ++ cpsR b (tick, ⟨W⟩)) stop).get? x := by
  have htk : ∀ x, tks old stop x = tks old tick x := fun x => by
    unfold tks
    congr 1
    refine List.filter_congr fun c hcm => ?_
    have := ho c hcm
    unfold inT
    rw [decide_eq_true (by omega : c.1 < stop), decide_eq_true (by omega : c.1 < tick)]
  revert hw
  refine rev_indU (P := fun W => tick + ((W.length : Int) + b - 1) / b ≤ stop → ∀ x, ((enumI W).foldl (rdCop b tick) cop).get? x = (copM (old ++ cpsR b (tick, ⟨W⟩)) stop).get? x) (fun _ x => ?_) (fun W w ih hw x => ?_) W
  · show cop.get? x = (copM (old ++ []) stop).get? x
    rw [List.append_nil, hc x, cop_get, cop_get, htk x]
  · have hlen : ((W ++ [w]).length : Int) = (W.length : Int) + 1 := by rw [List.length_append, List.length_singleton]; omega
    rw [hlen] at hw
    have hq : (W.length : Int) / b < (W.length + 1 + b - 1 : Int) / b := by
      have : ¬ ((W.length : Int) + 1 + b - 1) / b ≤ (W.length : Int) / b := fun z => by
        have q := (ceil_le (n := (W.length : Int) + 1) (b := b) (j := (W.length : Int) / b) (by omega)).mp z
        have q2 : b * ((W.length : Int) / b) ≤ (W.length : Int) := Int.mul_ediv_self_le (by omega)
        omega
      omega
    have hmono : ((W.length : Int) + b - 1) / b ≤ ((W.length : Int) + 1 + b - 1) / b := Int.ediv_le_ediv (by omega) (by omega)
    have ih := ih (by omega) x
    have ec : cpsR b (tick, ⟨W ++ [w]⟩) = cpsR b (tick, ⟨W⟩) ++ [(tick + (W.length : Int) / b, w)] := by
      unfold cpsR
      rw [enumI_snoc, List.map_append]
      rfl
    rw [enumI_snoc, List.foldl_append, List.foldl_cons, List.foldl_nil, ec, ← List.append_assoc, cop_get, tks_snoc]
    rw [cop_get] at ih
    show (Dct.put _ w (tick + (W.length : Int) / b)).get? x = _
    have d0 : 0 ≤ (W.length : Int) / b := Int.ediv_nonneg (by omega) (by omega)
    have hin : inT stop (tick + (W.length : Int) / b) = true := by
      unfold inT
      rw [decide_eq_true (by omega), decide_eq_true (by omega)]
      rfl
    rw [Dct.get?_put]
    by_cases e : w = x
    · rw [if_pos e.symm, decide_eq_true e, hin, Bool.and_self, if_pos rfl, if_neg (by simp)]
      congr 1
      refine maxL_eq (by simp) fun y hy => ?_
      rcases List.mem_append.mp hy with q | q
      · unfold tks at q
        obtain ⟨c, hc1, rfl⟩ := List.mem_map.mp q
        have hc2 := (List.mem_filter.mp hc1).1
        rcases List.mem_append.mp hc2 with r | r
        · have := ho c r; omega
        · obtain ⟨k, hk, ek⟩ := List.mem_map.mp r
          have hk2 := mem_enumI.mp hk
          have hk3 := (List.getElem?_eq_some_iff.mp hk2.2).1
          rw [← ek]
          dsimp only at hk3 ⊢
          have : k.1 / b ≤ (W.length : Int) / b := Int.ediv_le_ediv (by omega) (by have := hk2.1; omega)
          omega
      · rw [List.mem_singleton.mp q]; exact Int.le_refl _
    · rw [if_neg (fun z => e z.symm), decide_eq_false e, Bool.false_and, if_neg Bool.false_ne_true]
      exact ih
structure RJ (n b most : Int) (T : List (Tp Int)) (s : RS) : Prop where
  I : RdI n b most s
  len : (s.1.length : Int) ≤ most
  cb : ∀ c ∈ cpsOf b s.1, 0 ≤ c.1 ∧ c.1 < s.2.2.1
  get : ∀ x, s.2.1.get? x = (copM (cpsOf b s.1) s.2.2.1).get? x
  due : s.2.2.2 = leftM n T (cpsOf b s.1, s.2.2.1)
  pref : ∀ r ∈ s.1, r.2.l = leftM n T ((cpsOf b s.1).filter (fun c => decide (c.1 < r.1)), r.1) ∧ 0 ≤ r.1 ∧ r.1 ≤ s.2.2.1
theorem RJ.start {n b most : Int} {T : List (Tp Int)} (hn : 0 ≤ n) (hm : 0 ≤ most) : RJ n b most T ([], Dct.emp, 0, rng 0 n) := by
  refine ⟨RdI.start hn, hm, (fun c h => nomatch h), fun x => ?_, ?_, (fun r h => nomatch h)⟩
  · rw [cop_get]; rfl
  · rw [left_eq]
    symm
    rw [List.filter_eq_self]
    intro x _
    unfold lfT
    rw [tks_zero]
    rfl
theorem RJ.next {n b most sl : Int} {T : List (Tp Int)} {s : RS} (P : RdP n T b most) (h : RJ n b most T s) (hc : rdC most sl s = true) : RJ n b most T (rdN n T b s) := by
  obtain ⟨I, hl, cb, get, due, pref⟩ := h
  have I' := I.next P
  have hlt := rdC_lt hc
  have t0 := I.t0
  have hcb := div_bound (l := (s.2.2.2.length : Int)) P.b0 (by omega)
  have eC : cpsOf b (s.1 ++ [(s.2.2.1, (⟨s.2.2.2⟩ : Tp Int))]) = cpsOf b s.1 ++ cpsR b (s.2.2.1, ⟨s.2.2.2⟩) := cpsOf_snoc b s.1 _
  have hget : ∀ x, ((enumI s.2.2.2).foldl (rdCop b s.2.2.1) s.2.1).get? x = (copM (cpsOf b s.1 ++ cpsR b (s.2.2.1, ⟨s.2.2.2⟩)) (s.2.2.1 + ((s.2.2.2.length : Int) + b - 1) / b)).get? x :=
    cop_round P.b0 t0 cb get s.2.2.2 (Int.le_refl _) (by omega)
  have hcb' : ∀ c ∈ cpsOf b s.1 ++ cpsR b (s.2.2.1, ⟨s.2.2.2⟩), 0 ≤ c.1 ∧ c.1 < s.2.2.1 + ((s.2.2.2.length : Int) + b - 1) / b := fun c hm => by
    rcases List.mem_append.mp hm with q | q
    · have := cb c q; omega
    · have := cpsR_bd P.b0 q; omega
  refine ⟨I', ?_, ?_, ?_, ?_, ?_⟩
  · show ((s.1 ++ [(s.2.2.1, (⟨s.2.2.2⟩ : Tp Int))]).length : Int) ≤ most
    rw [List.length_append, List.length_singleton]
    omega
  · show ∀ c ∈ cpsOf b (s.1 ++ [(s.2.2.1, (⟨s.2.2.2⟩ : Tp Int))]), _
    rw [eC]
    exact hcb'
  · show ∀ x, ((enumI s.2.2.2).foldl (rdCop b s.2.2.1) s.2.1).get? x = (copM (cpsOf b (s.1 ++ [(s.2.2.1, (⟨s.2.2.2⟩ : Tp Int))])) (s.2.2.1 + ((s.2.2.2.length : Int) + b - 1) / b)).get? x
    rw [eC]
    exact hget
  · show rdDue n T ((enumI s.2.2.2).foldl (rdCop b s.2.2.1) s.2.1) (s.2.2.1 + ((s.2.2.2.length : Int) + b - 1) / b) = leftM n T (cpsOf b (s.1 ++ [(s.2.2.1, (⟨s.2.2.2⟩ : Tp Int))]), s.2.2.1 + ((s.2.2.2.length : Int) + b - 1) / b)
    rw [eC]
    unfold rdDue leftM
    rw [List.map_id']
    refine List.filter_congr fun x hx => ?_
    have hx' := mem_rng.mp hx
    have hcov := I.covered hx'.1 hx'.2
    have hg := hget x
    dsimp only
    rw [← hg, hcov]
    have hd : dix (copM (cpsOf b s.1 ++ cpsR b (s.2.2.1, ⟨s.2.2.2⟩)) (s.2.2.1 + ((s.2.2.2.length : Int) + b - 1) / b)) x = dix ((enumI s.2.2.2).foldl (rdCop b s.2.2.1) s.2.1) x := by unfold dix; rw [hg]
    rw [hd]
    have h0 : 0 ≤ dix ((enumI s.2.2.2).foldl (rdCop b s.2.2.1) s.2.1) x := by
      obtain ⟨v, hv⟩ := Option.isSome_iff_exists.mp hcov
      rw [dix_of hv]
      rw [hg, cop_get] at hv
      split at hv
      · cases hv
      · rename_i hne
        have hv' : maxL _ = v := Option.some.inj hv
        have := tks_lt (maxL_mem hne)
        omega
    cases e : (writtenIn T 0 (s.2.2.1 + ((s.2.2.2.length : Int) + b - 1) / b)).get? x with
    | none =>
      simp
      omega
    | some v => rw [dix_of e]; simp
  · show ∀ r ∈ s.1 ++ [(s.2.2.1, (⟨s.2.2.2⟩ : Tp Int))], r.2.l = leftM n T ((cpsOf b (s.1 ++ [(s.2.2.1, (⟨s.2.2.2⟩ : Tp Int))])).filter (fun c => decide (c.1 < r.1)), r.1) ∧ 0 ≤ r.1 ∧ r.1 ≤ s.2.2.1 + ((s.2.2.2.length : Int) + b - 1) / b
    rw [eC]
    intro r hr
    have hnew : ∀ t, t ≤ s.2.2.1 → (cpsR b (s.2.2.1, ⟨s.2.2.2⟩)).filter (fun c => decide (c.1 < t)) = [] := fun t ht => by
      rw [List.filter_eq_nil_iff]
      intro c hcm
      have := cpsR_bd P.b0 hcm
      simp
      omega
    rcases List.mem_append.mp hr with q | q
    · obtain ⟨p1, p2, p3⟩ := pref r q
      exact ⟨by rw [List.filter_append, hnew _ p3, List.append_nil]; exact p1, p2, by omega⟩
    · rw [List.mem_singleton.mp q]
      refine ⟨?_, t0, by dsimp only; omega⟩
      dsimp only
      rw [List.filter_append, hnew _ (Int.le_refl _), List.append_nil]
      have : (cpsOf b s.1).filter (fun c => decide (c.1 < s.2.2.1)) = cpsOf b s.1 := by
        rw [List.filter_eq_self]
        intro c hcm
        have := cb c hcm
        simp
        omega
      rw [this]
      exact due
theorem whl_RJ {n b most sl : Int} {T : List (Tp Int)} (P : RdP n T b most) : ∀ (k : Nat) (s : RS), RJ n b most T s → ∃ s', RJ n b most T s' ∧ whl (rdC most sl) (rdB n T b) rdK k s = rdK s'
  | 0, s, h => ⟨s, h, rfl⟩
  | k + 1, s, h => by
    rw [whl]
    by_cases c : rdC most sl s = true
    · rw [if_pos c]
      exact whl_RJ P k (rdN n T b s) (h.next P c)
    · rw [if_neg c]
      exact ⟨s, h, rfl⟩
/-- what rounds tell -/
structure RoundsOk (n b most : Int) (T : List (Tp Int)) (r : RR) : Prop where
  len : (r.a.length : Int) ≤ most
  cb : ∀ c ∈ cpsOf b r.a, 0 ≤ c.1 ∧ c.1 < r.b
  t0 : 0 ≤ r.b
  left : r.c.l = leftM n T (cpsOf b r.a, r.b)
  pref : ∀ x ∈ r.a, x.2.l = leftM n T ((cpsOf b r.a).filter (fun c => decide (c.1 < x.1)), x.1) ∧ 0 ≤ x.1 ∧ x.1 ≤ r.b
theorem rounds_ok {n b most sl : Int} {T : List (Tp Int)} (P : RdP n T b most) : RoundsOk n b most T (roundsM n T b sl most) := by
  obtain ⟨s, h, e⟩ := whl_RJ (sl := sl) P most.toNat _ (RJ.start P.n0 P.m0)
  unfold roundsM
  rw [e]
  exact ⟨h.len, h.cb, h.I.t0, h.due, h.pref⟩
theorem cpsOf_len {b : Int} {m : Nat} : ∀ {told : List (Int × Tp Int)}, (∀ x ∈ told, x.2.l.length ≤ m) → (cpsOf b told).length ≤ told.length * m
  | [], _ => Nat.zero_le _
  | x :: told, h => by
    have ih := cpsOf_len (b := b) (m := m) (told := told) fun y hy => h y (List.mem_cons_of_mem _ hy)
    have h1 := h x List.mem_cons_self
    have e : (cpsOf b (x :: told)).length = x.2.l.length + (cpsOf b told).length := by
      unfold cpsOf
      rw [List.flatMap_cons, List.length_append]
      unfold cpsR
      rw [List.length_map, len_enumI]
    rw [e, List.length_cons, Nat.succ_mul]
    omega
theorem in_all {cps : List (Int × Int)} {t : Int} (h : ∀ c ∈ cps, 0 ≤ c.1 ∧ c.1 < t) : (cps.filter fun c => inT t c.1).length = cps.length := by
  rw [List.filter_eq_self.mpr]
  intro c hc
  have := h c hc
  unfold inT
  simp
  omega
end GL
namespace GL
open PySem PySem.Spec PyProof.Rows L2
variable {C : Addr}
theorem lets_filter {g : Prog} {l : Lets} {p : Int × Int → Bool} (h : LetsOk g l) : LetsOk g (l.filter p) :=
  ⟨h.srt.sublist ((List.filter_sublist (p := p)).map _), fun x hx => h.nums x (List.mem_filter.mp hx).1, Nat.le_trans (List.length_filter_le _ _) h.len⟩
theorem trc_ok {g : Prog} {s : Stand} {l : Lets} {many : Int} (hg : ProgOk g) (hs : StandOk g s) (hl : LetsOk g l) (h0 : 0 ≤ many) (h1 : many ≤ 100000) : TrOk (trcM g s l many) :=
  ⟨by rw [trc_len h0]; omega, fun r hr p hp => by have := (trc_mem hg hs hl h0 hr).2 p hp; have := hg.n1; omega⟩
theorem goes_st (z : Car C) : (goesC (stillC z)).st = z.st ∧ (goesC (stillC z)).place = z.goal.getD default := by unfold goesC stillC; exact ⟨rfl, rfl⟩
theorem LIC.stopP {g : Prog} {s : Stand} {l : Lets} {cps : List (Int × Int)} {T : List (Tp Int)} {t : Int} {z : Car C} (h : LIC g s l cps T t z) (hg : ProgOk g) : (z.goal.isSome = true ∧ z.still = false) ∧ 0 ≤ z.g.a ∧ z.g.a ≤ 1000 := by
  have h1 := hg.n0
  have h2 := hg.n1
  exact ⟨⟨by rw [h.goal]; rfl, h.still⟩, by rw [h.run.gg]; omega, by rw [h.run.gg]; omega⟩
theorem LIC.endP {g : Prog} {s : Stand} {l : Lets} {cps : List (Int × Int)} {T : List (Tp Int)} {t : Int} {z : Car C} (h : LIC g s l cps T t z) (hg : ProgOk g) : ((stillC z).goal.isSome = true ∧ (stillC z).still = true) ∧ 0 ≤ (stillC z).g.a ∧ (stillC z).g.a ≤ 1000 := by
  have h1 := h.stopP hg
  unfold stillC
  exact ⟨⟨h1.1.1, rfl⟩, h1.2⟩
theorem LIC.runA {g : Prog} {s : Stand} {l : Lets} {cps : List (Int × Int)} {T : List (Tp Int)} {t : Int} {z : Car C} (h : LIC g s l cps T t z) : z.st = (runM g s l t).a := by
  rw [h.run.st]
  unfold runM
  rfl
end GL

namespace GL
open PySem PySem.Spec PyProof.Rows L2
/-! ### the plan that is told is good -/
structure GoodC (n : Int) (trail : List (Tp Int)) (b s stop : Int) (cs : List (Int × Int)) : Prop where
  srt : cs.Pairwise lt2
  len : cs.length < 64
  last : ∀ p ∈ cs, lastW trail stop p.2 < p.1 ∧ p.1 < stop
  sh : ∀ p ∈ cs, 0 ≤ p.2 ∧ p.2 < n
  cap : ∀ t : Int, ((cs.filter fun p => decide (p.1 = t)).length : Int) ≤ b
  nd : (cs.map (·.2)).Nodup
  many : (cs.length : Int) = max 0 (n - s)
/-- the sheets by their last writings -/
abbrev byLast (ls : List Int) : List (Int × Int) := srt2 ((enumI ls).map fun x => (x.2, x.1))
theorem byLast_len (ls : List Int) : (byLast ls).length = ls.length := by
  rw [(srt2_perm _).length_eq, List.length_map, len_enumI]
theorem due_take (ls : List Int) {m : Int} (hm : 0 ≤ m) : dueM ls m = ((byLast ls).take m.toNat).map (·.2) := by
  unfold dueM
  have h : ∀ {δ : Type} (xs : List δ), cutL xs none (some m) = xs.take m.toNat := by
    intro δ xs
    unfold cutL HT.sIx
    simp only [List.drop_zero, Nat.sub_zero]
    by_cases q : m ≤ xs.length
    · congr 1
      split <;> omega
    · have e1 : xs.take m.toNat = xs := List.take_of_length_le (by omega)
      rw [e1]
      apply List.take_of_length_le
      split <;> omega
  rw [h, List.map_take]
theorem byLast_mem {ls : List Int} {p : Int × Int} (h : p ∈ byLast ls) : 0 ≤ p.2 ∧ p.2 < ls.length ∧ ls[p.2.toNat]? = some p.1 := by
  obtain ⟨x, hx, rfl⟩ := List.mem_map.mp ((srt2_perm _).mem_iff.mp h)
  obtain ⟨h0, h1⟩ := mem_enumI.mp hx
  have := (List.getElem?_eq_some_iff.mp h1).1
  exact ⟨h0, by dsimp only; omega, h1⟩
theorem enum_fst (ls : List Int) : (enumI ls).map (·.1) = rng 0 ls.length := by
  unfold enumI rng
  rw [List.map_map]
  apply List.ext_getElem?
  intro i
  rw [List.getElem?_map, List.getElem?_map, List.getElem?_zipIdx]
  by_cases h : i < ls.length
  · rw [List.getElem?_range (by omega), List.getElem?_eq_getElem h]
    simp
  · rw [List.getElem?_eq_none (by omega), List.getElem?_eq_none (by rw [List.length_range]; omega)]
    rfl
theorem byLast_nd (ls : List Int) : ((byLast ls).map (·.2)).Nodup := by
  have p := (srt2_perm ((enumI ls).map fun x => (x.2, x.1))).map (·.2)
  rw [List.map_map] at p
  refine p.nodup_iff.mpr ?_
  show ((enumI ls).map (·.1)).Nodup
  rw [enum_fst]
  exact rng_nodup _ _
theorem byLast_count (ls : List Int) (t : Int) : ((byLast ls).filter fun p => decide (t ≤ p.1)).length = (ls.filter fun x => decide (t ≤ x)).length := by
  have p := (srt2_perm ((enumI ls).map fun x => (x.2, x.1))).filter (fun p => decide (t ≤ p.1))
  rw [p.length_eq, List.filter_map, List.length_map]
  have e : ls = (enumI ls).map (·.2) := by
    unfold enumI
    rw [List.map_map]
    have : (ls.zipIdx.map ((fun x : Int × Int => x.2) ∘ fun p : Int × Nat => ((p.2 : Int), p.1))) = ls.zipIdx.map Prod.fst := List.map_congr_left fun _ _ => rfl
    rw [this, List.zipIdx_map_fst]
  conv => rhs; rw [e, List.filter_map, List.length_map]
  rfl
theorem sorted_get {l : List (Int × Int)} (h : l.Pairwise le2) {i j : Nat} (hij : i ≤ j) (hj : j < l.length) : (l[i]'(by omega)).1 ≤ (l[j]).1 := by
  by_cases e : i = j
  · subst e; exact Int.le_refl _
  · have := List.pairwise_iff_getElem.mp h i j (by omega) hj (by omega)
    unfold le2 at this
    omega
theorem count_ge {l : List (Int × Int)} (h : l.Pairwise le2) {i : Nat} (hi : i < l.length) : l.length - i ≤ (l.filter fun p => decide ((l[i]).1 ≤ p.1)).length := by
  have e : (l.drop i).filter (fun p => decide ((l[i]).1 ≤ p.1)) = l.drop i := List.filter_eq_self.mpr fun p hp => by
    obtain ⟨k, hk, rfl⟩ := List.getElem_of_mem hp
    rw [List.length_drop] at hk
    rw [List.getElem_drop]
    exact decide_eq_true (sorted_get h (by omega) (by omega))
  have q : (l.drop i).length ≤ (l.filter fun p => decide ((l[i]).1 ≤ p.1)).length := by
    rw [← e]
    exact ((List.drop_sublist i l).filter _).length_le
  rw [List.length_drop] at q
  exact q
theorem div_lt18 {k b q : Int} (hb : 0 < b) (h : k < b * q) : k / b < q := Int.ediv_lt_of_lt_mul hb (by rw [Int.mul_comm]; exact h)
theorem plc_get {b stop : Int} {xs : List Int} {p : Int × Int} (h : p ∈ plc b stop xs) : ∃ k : Nat, xs[k]? = some p.2 ∧ p.1 = stop - 1 - (k : Int) / b := by
  unfold plc at h
  obtain ⟨x, hx, rfl⟩ := List.mem_map.mp h
  obtain ⟨h0, h1⟩ := mem_enumI.mp hx
  exact ⟨x.1.toNat, h1, by dsimp only; rw [show ((x.1.toNat : Nat) : Int) = x.1 by omega]⟩
theorem plc_snd (b stop : Int) (xs : List Int) : (plc b stop xs).map (·.2) = xs := by
  unfold plc
  rw [List.map_map]
  have : (enumI xs).map ((fun p : Int × Int => p.2) ∘ fun p => (stop - 1 - p.1 / b, p.2)) = (enumI xs).map (·.2) := List.map_congr_left fun _ _ => rfl
  rw [this]
  unfold enumI
  rw [List.map_map]
  have : (xs.zipIdx.map ((fun x : Int × Int => x.2) ∘ fun p : Int × Nat => ((p.2 : Int), p.1))) = xs.zipIdx.map Prod.fst := List.map_congr_left fun _ _ => rfl
  rw [this, List.zipIdx_map_fst]
theorem range_cap {b : Int} (hb : 0 < b) (q : Int) : ∀ N : Nat, (((List.range N).filter fun k : Nat => decide ((k : Int) / b = q)).length : Int) ≤ max 0 (min b ((N : Int) - b * q))
  | 0 => by simp; omega
  | N + 1 => by
    have ih := range_cap hb q N
    rw [List.range_succ, List.filter_append, List.length_append, List.filter_cons, List.filter_nil]
    by_cases e : (N : Int) / b = q
    · rw [if_pos (decide_eq_true e)]
      have h1 := Int.mul_ediv_add_emod (N : Int) b
      have h2 := Int.emod_nonneg (N : Int) (show b ≠ 0 by omega)
      have h3 := Int.emod_lt_of_pos (N : Int) hb
      rw [e] at h1
      simp only [List.length_singleton]
      omega
    · rw [if_neg (by rw [decide_eq_false e]; decide)]
      simp only [List.length_nil]
      omega
theorem plc_cap {b stop : Int} (hb : 0 < b) (xs : List Int) (t : Int) : (((plc b stop xs).filter fun p => decide (p.1 = t)).length : Int) ≤ b := by
  unfold plc enumI
  rw [List.map_map, List.filter_map, List.length_map]
  have h : ∀ (ys : List Int), ((ys.zipIdx.filter ((fun p : Int × Int => decide (p.1 = t)) ∘ (fun p : Int × Int => (stop - 1 - p.1 / b, p.2)) ∘ fun p : Int × Nat => ((p.2 : Int), p.1))).length) = ((List.range ys.length).filter fun k : Nat => decide ((k : Int) / b = stop - 1 - t)).length := by
    intro ys
    have e1 : (ys.zipIdx.map Prod.snd) = List.range ys.length := by
      rw [List.zipIdx_map_snd, List.range_eq_range']
    rw [← e1, List.filter_map, List.length_map]
    congr 1
    apply List.filter_congr
    intro p _
    show decide (stop - 1 - (p.2 : Int) / b = t) = decide ((p.2 : Int) / b = stop - 1 - t)
    by_cases q : (p.2 : Int) / b = stop - 1 - t
    · rw [decide_eq_true q, decide_eq_true (by omega)]
    · rw [decide_eq_false q, decide_eq_false (by omega)]
  rw [h]
  have := range_cap hb (stop - 1 - t) xs.length
  omega
theorem filter_perm_len {δ : Type} {l l' : List δ} (p : l.Perm l') (f : δ → Bool) : (l.filter f).length = (l'.filter f).length := (p.filter f).length_eq
theorem plan_good {n b s stop : Int} {trail : List (Tp Int)} (hn : 0 ≤ n) (hn1 : n ≤ 60) (hb : 0 < b) (hs : 0 ≤ s) (h0 : 0 ≤ stop) (hl : (leastM n trail b stop).1 ≤ s) : GoodC n trail b s stop (srt2 (plc b stop (dueM (lastsM n trail stop) (max 0 (n - s))).reverse)) := by
  have hlen := len_lasts n trail stop
  have hsz := byLast_len (lastsM n trail stop)
  have hsort : (byLast (lastsM n trail stop)).Pairwise le2 := srt2_sorted _
  have hcl := fun p (hp : p ∈ byLast (lastsM n trail stop)) => byLast_mem hp
  have hcnt := byLast_count (lastsM n trail stop)
  have hnd := byLast_nd (lastsM n trail stop)
  obtain ⟨_, f2, _, _⟩ := least_spec (n := n) (b := b) (stop := stop) (trace := trail) (by omega) h0
  rw [due_take _ (show 0 ≤ max 0 (n - s) by omega)]
  generalize hL : byLast (lastsM n trail stop) = L at *
  generalize hm : max 0 (n - s) = m at *
  have hm0 : 0 ≤ m := by omega
  have hmn : m ≤ n := by omega
  have hDl : ((L.take m.toNat).map (·.2)).length = m.toNat := by rw [List.length_map, List.length_take]; omega
  have hper := srt2_perm (plc b stop ((L.take m.toNat).map (·.2)).reverse)
  have hlast : ∀ x, 0 ≤ x → x < n → (lastsM n trail stop)[x.toNat]? = some (lastW trail stop x) := fun x h1 h2 => by
    unfold lastsM
    rw [List.getElem?_map, rng_get (by omega)]
    simp only [Option.map_some, Int.zero_add]
    rw [show ((x.toNat : Nat) : Int) = x by omega]
  have key : ∀ p ∈ plc b stop ((L.take m.toNat).map (·.2)).reverse, (0 ≤ p.2 ∧ p.2 < n) ∧ lastW trail stop p.2 < p.1 ∧ p.1 < stop := by
    intro p hp
    obtain ⟨k, hk, e1⟩ := plc_get hp
    have hkl : k < m.toNat := by
      have := (List.getElem?_eq_some_iff.mp hk).1
      rw [List.length_reverse, hDl] at this
      exact this
    rw [List.getElem?_reverse (by rw [hDl]; exact hkl), hDl, List.getElem?_map, List.getElem?_take] at hk
    rw [if_pos (by omega)] at hk
    have hi : m.toNat - 1 - k < L.length := by omega
    rw [List.getElem?_eq_getElem hi] at hk
    have e2 : (L[m.toNat - 1 - k]).2 = p.2 := Option.some.inj hk
    obtain ⟨c0, c1, c2⟩ := hcl _ (List.getElem_mem hi)
    rw [e2] at c0 c1 c2
    have hpn : p.2 < n := by omega
    rw [hlast p.2 c0 hpn] at c2
    have e3 : lastW trail stop p.2 = (L[m.toNat - 1 - k]).1 := Option.some.inj c2
    have hc := count_ge hsort hi
    rw [hcnt, ← e3] at hc
    have hw := lasts_bd (n := n) (trace := trail) h0 (List.mem_of_getElem? (hlast p.2 c0 hpn))
    have hk2 := f2 (lastW trail stop p.2) hw.2.1
    unfold lackM at hk2
    have hkb : (k : Int) < b * (stop - lastW trail stop p.2 - 1) := by omega
    have hdiv := div_lt18 hb hkb
    have hdn : 0 ≤ (k : Int) / b := Int.ediv_nonneg (by omega) (by omega)
    exact ⟨⟨c0, hpn⟩, by omega, by omega⟩
  have hnd2 : (((L.take m.toNat).map (·.2)).reverse).Nodup := by
    refine (List.reverse_perm _).nodup_iff.mpr ?_
    exact hnd.sublist ((List.take_sublist _ _).map _)
  have hnd3 : ((srt2 (plc b stop ((L.take m.toNat).map (·.2)).reverse)).map (·.2)).Nodup := by
    refine (hper.map (·.2)).nodup_iff.mpr ?_
    rw [plc_snd]
    exact hnd2
  refine ⟨?_, ?_, fun p hp => (key p (hper.mem_iff.mp hp)).2, fun p hp => (key p (hper.mem_iff.mp hp)).1, fun t => ?_, hnd3, ?_⟩
  · have h1 := srt2_sorted (plc b stop ((L.take m.toNat).map (·.2)).reverse)
    have h2 : (srt2 (plc b stop ((L.take m.toNat).map (·.2)).reverse)).Nodup := nodup_of_map hnd3
    exact (h1.and h2).imp fun ⟨a, b⟩ => lt2_of a b
  · rw [hper.length_eq, plc_len, List.length_reverse, hDl]
    omega
  · rw [filter_perm_len hper]
    exact plc_cap hb _ t
  · rw [hper.length_eq, plc_len, List.length_reverse, hDl]
    omega
end GL
namespace GL
open PySem PySem.Spec PyProof.Rows L2
theorem cnt_put {pre : List (Int × Int)} {it : Int × Int} {d : Dct Int} (h : ∀ t, (d.get? t).getD 0 = ((pre.filter fun p => decide (p.1 = t)).length : Int)) (hl : d.l.length ≤ pre.length) :
    (∀ t, ((d.put it.1 ((d.get? it.1).getD 0 + 1)).get? t).getD 0 = (((pre ++ [it]).filter fun p => decide (p.1 = t)).length : Int)) ∧ (d.put it.1 ((d.get? it.1).getD 0 + 1)).l.length ≤ (pre ++ [it]).length := by
  refine ⟨fun t => ?_, ?_⟩
  · rw [Dct.get?_put, List.filter_append, List.length_append, List.filter_cons, List.filter_nil]
    by_cases e : it.1 = t
    · rw [if_pos e.symm, if_pos (decide_eq_true e), Option.getD_some, e, h]
      simp
    · rw [if_neg (fun q => e q.symm), if_neg (by rw [decide_eq_false e]; decide), h]
      simp
  · refine Nat.le_trans (Dct.put_len _ _ _) ?_
    rw [List.length_append]
    exact Nat.add_le_add_right hl 1
theorem least_late {n b stop : Int} {trail : List (Tp Int)} (hn : n ≤ 12) (hb : 1 ≤ b) (ht : trail.length ≤ 30) (h0 : 60 ≤ stop) : (leastM n trail b stop).1 = 0 := by
  obtain ⟨h1, h2, h3, h4⟩ := least_spec (n := n) (b := b) (stop := stop) (trace := trail) (by omega) (by omega)
  refine h3.mpr ?_
  cases e : (leastM n trail b stop).2 with
  | none => rfl
  | some t =>
    exfalso
    obtain ⟨g1, g2, g3⟩ := h4 t e
    have hne : (leastM n trail b stop).1 ≠ 0 := fun q => by rw [h3.mp q] at e; cases e
    unfold lackM at g3
    have hl := List.length_filter_le (fun x => decide (t ≤ x)) (lastsM n trail stop)
    rw [len_lasts] at hl
    by_cases q : t ≤ 29
    · have : 1 * (stop - t - 1) ≤ b * (stop - t - 1) := Int.mul_le_mul_of_nonneg_right hb (by omega)
      omega
    · have : (lastsM n trail stop).filter (fun x => decide (t ≤ x)) = [] := List.filter_eq_nil_iff.mpr fun x hx => by
        have := lasts_bd (n := n) (trace := trail) (by omega) hx
        simp
        omega
      rw [this] at g3
      have : 0 ≤ b * (stop - t - 1) := Int.mul_nonneg (by omega) (by omega)
      simp at g3
      omega
theorem k18_least {n b stop : Int} {trail : List (Tp Int)} (hn : n ≤ 12) (hb : 1 ≤ b) (ht : trail.length ≤ 30) (h0 : 0 ≤ stop) : lawLeastM n trail b (min stop 60) = (leastM n trail b stop).1 := by
  rw [lawLeast_eq (by omega) (by omega)]
  by_cases q : stop ≤ 60
  · rw [Int.min_eq_left q]
  · rw [least_late hn hb ht (by omega), least_late hn hb ht (by omega)]
theorem plan_bar {n b s stop : Int} {trail : List (Tp Int)} (hb : 0 ≤ b) (h0 : 0 ≤ stop) (hs : 0 ≤ s) (h : s < (leastM n trail b stop).1) : ∃ t, planM n trail b s stop = (Str.ofString "barred", .inr (some t)) ∧ -1 ≤ t ∧ t < stop ∧ s < lackM (lastsM n trail stop) b stop t := by
  obtain ⟨h1, h2, h3, h4⟩ := least_spec (n := n) (b := b) (stop := stop) (trace := trail) hb h0
  cases e : (leastM n trail b stop).2 with
  | none =>
    have := h3.mpr e
    omega
  | some t =>
    obtain ⟨g1, g2, g3⟩ := h4 t e
    exact ⟨t, by rw [plan_barred h, e], g1, g2, by omega⟩
end GL

namespace GL
open PySem PySem.Spec PyProof.Rows L2
/-! ### the last writings kept along -/
def alPut (beat : Int) (l : List Int) (s : Int) : List Int := l.set s.toNat beat
def alStep (st : List Int × List (Tp Int)) (p : Int × Tp Int) : List Int × List (Tp Int) := (p.2.l.foldl (alPut p.1) st.1, st.2 ++ [⟨p.2.l.foldl (alPut p.1) st.1⟩])
@[irreducible] def alongM (n : Int) (trail : List (Tp Int)) : List (Tp Int) := ((enumI trail).foldl alStep (List.replicate n.toNat (-1), [⟨List.replicate n.toNat (-1)⟩])).2
theorem alPut_len (beat : Int) : ∀ (r : List Int) (l : List Int), (r.foldl (alPut beat) l).length = l.length
  | [], l => rfl
  | s :: r, l => by rw [List.foldl_cons, alPut_len beat r]; unfold alPut; rw [List.length_set]
theorem alStep_len : ∀ (ps : List (Int × Tp Int)) (st : List Int × List (Tp Int)), (ps.foldl alStep st).1.length = st.1.length ∧ (ps.foldl alStep st).2.length = st.2.length + ps.length
  | [], st => ⟨rfl, rfl⟩
  | p :: ps, st => by
    rw [List.foldl_cons]
    obtain ⟨h1, h2⟩ := alStep_len ps (alStep st p)
    refine ⟨h1.trans (alPut_len _ _ _), h2.trans ?_⟩
    simp [alStep]
    omega
theorem alPut_get (beat : Int) : ∀ (r : List Int) (l : List Int) (i : Nat), i < l.length → (∀ s ∈ r, 0 ≤ s) → (r.foldl (alPut beat) l)[i]? = if (i : Int) ∈ r then some beat else l[i]?
  | [], l, i, _, _ => by simp
  | s :: r, l, i, hi, hr => by
    rw [List.foldl_cons, alPut_get beat r (alPut beat l s) i (by unfold alPut; rw [List.length_set]; exact hi) fun q hq => hr q (List.mem_cons_of_mem _ hq)]
    have h0 := hr s List.mem_cons_self
    by_cases h1 : (i : Int) ∈ r
    · rw [if_pos h1, if_pos (List.mem_cons_of_mem _ h1)]
    · rw [if_neg h1]
      unfold alPut
      by_cases h2 : (i : Int) = s
      · rw [if_pos (by rw [h2]; exact List.mem_cons_self), show s.toNat = i by omega, List.getElem?_set_self hi]
      · rw [if_neg (by rw [List.mem_cons]; exact fun q => q.elim h2 h1), List.getElem?_set_ne (by omega)]
theorem lastN_congr {T T' : List (Tp Int)} (s : Int) : ∀ k : Nat, (∀ i < k, T.getD i ⟨[]⟩ = T'.getD i ⟨[]⟩) → lastN T k s = lastN T' k s
  | 0, _ => rfl
  | k + 1, h => by rw [lastN, lastN, h k (by omega), lastN_congr s k fun i hi => h i (by omega)]
theorem lasts_congr {T T' : List (Tp Int)} {n stop : Int} (h : ∀ i : Nat, (i : Int) < stop → T.getD i ⟨[]⟩ = T'.getD i ⟨[]⟩) : lastsM n T stop = lastsM n T' stop := by
  unfold lastsM
  apply List.map_congr_left
  intro x _
  unfold lastW
  rw [lastN_congr x stop.toNat fun i hi => h i (by omega)]
theorem getD_app {T : List (Tp Int)} {r : List (Tp Int)} {i : Nat} (h : i < T.length) : (T ++ r).getD i ⟨[]⟩ = T.getD i ⟨[]⟩ := by
  rw [List.getD_eq_getElem?_getD, List.getD_eq_getElem?_getD, List.getElem?_append_left h]
theorem lasts_snoc {n : Int} {T : List (Tp Int)} {row : Tp Int} (hn : 0 ≤ n) (hr : ∀ s ∈ row.l, 0 ≤ s) : row.l.foldl (alPut T.length) (lastsM n T T.length) = lastsM n (T ++ [row]) (T.length + 1) := by
  apply List.ext_getElem?
  intro i
  by_cases hi : i < n.toNat
  · rw [alPut_get _ _ _ _ (by rw [len_lasts]; exact hi) hr]
    unfold lastsM
    rw [List.getElem?_map, List.getElem?_map, rng_get (by omega)]
    simp only [Option.map_some, Int.zero_add]
    unfold lastW
    rw [show ((T.length : Int) + 1).toNat = T.length + 1 by omega, show ((T.length : Int)).toNat = T.length by omega, lastN]
    have e : (T ++ [row]).getD T.length ⟨[]⟩ = row := by rw [List.getD_eq_getElem?_getD, List.getElem?_append_right (Nat.le_refl _), Nat.sub_self]; rfl
    rw [e, lastN_congr (T := T ++ [row]) (T' := T) _ T.length fun j hj => getD_app hj]
    by_cases h : (i : Int) ∈ row.l
    · rw [if_pos h, if_pos h]; rfl
    · rw [if_neg h, if_neg h]
  · rw [List.getElem?_eq_none (by rw [alPut_len, len_lasts]; omega), List.getElem?_eq_none (by rw [len_lasts]; omega)]
theorem lasts_0 {n : Int} {T : List (Tp Int)} : lastsM n T 0 = List.replicate n.toNat (-1) := by
  apply List.ext_getElem?
  intro i
  by_cases hi : i < n.toNat
  · unfold lastsM
    rw [List.getElem?_map, rng_get (by omega), List.getElem?_replicate, if_pos hi]
    rfl
  · rw [List.getElem?_eq_none (by rw [len_lasts]; omega), List.getElem?_eq_none (by rw [List.length_replicate]; omega)]
theorem along_run {n : Int} (hn : 0 ≤ n) : ∀ (T : List (Tp Int)), (∀ t ∈ T, ∀ s ∈ t.l, 0 ≤ s) → (enumI T).foldl alStep (List.replicate n.toNat (-1), [⟨List.replicate n.toNat (-1)⟩]) = (lastsM n T T.length, (rng 0 (T.length + 1)).map fun k => ⟨lastsM n T k⟩) := by
  intro T
  induction h : T.length generalizing T with
  | zero =>
    intro _
    have : T = [] := List.length_eq_zero_iff.mp h
    subst this
    rw [enumI_nil, List.foldl_nil, show (((0 : Nat) : Int)) = 0 from rfl, lasts_0, show (0 : Int) + 1 = 0 + 1 from rfl, rng_succ (by omega), rng_nil (by omega)]
    simp only [List.nil_append, List.map_cons, List.map_nil]
    rw [lasts_0]
  | succ m ih =>
    intro ht
    have hne : T ≠ [] := fun e => by rw [e] at h; cases h
    obtain ⟨T', row, rfl⟩ : ∃ T' row, T = T' ++ [row] := ⟨T.dropLast, T.getLast hne, (List.dropLast_concat_getLast hne).symm⟩
    have hl : T'.length = m := by rw [List.length_append] at h; simp only [List.length_singleton] at h; omega
    rw [enumI_snoc, List.foldl_append, ih T' hl fun t q => ht t (List.mem_append_left _ q), List.foldl_cons, List.foldl_nil]
    have hr := ht row (List.mem_append_right _ (List.mem_singleton.mpr rfl))
    have e := lasts_snoc (T := T') hn hr
    rw [hl] at e
    unfold alStep
    dsimp only
    rw [hl, e, show ((m + 1 : Nat) : Int) = (m : Int) + 1 by omega, rng_succ (b := (m : Int) + 1) (by omega), List.map_append]
    refine congrArg (Prod.mk _) ?_
    refine congrArg (· ++ _) ?_
    apply List.map_congr_left
    intro k hk
    have := mem_rng.mp hk
    rw [lasts_congr (T := T') (T' := T' ++ [row]) fun i hi => (getD_app (by omega)).symm]
theorem along_eq {n : Int} {T : List (Tp Int)} (hn : 0 ≤ n) (ht : ∀ t ∈ T, ∀ s ∈ t.l, 0 ≤ s) : alongM n T = (rng 0 (T.length + 1)).map fun k => ⟨lastsM n T k⟩ := by
  unfold alongM
  rw [along_run hn T ht]
/-! ### the law's long trace -/
@[irreducible] def longerM (lead ring : List (Tp Int)) (many : Int) : List (Tp Int) := cutL (longM lead ring many) none (some many)
theorem cut_take {δ : Type} (xs : List δ) {m : Int} (h : 0 ≤ m) : cutL xs none (some m) = xs.take m.toNat := by
  unfold cutL HT.sIx
  simp only [List.drop_zero, Nat.sub_zero]
  by_cases q : m ≤ xs.length
  · congr 1
    split <;> omega
  · have e1 : xs.take m.toNat = xs := List.take_of_length_le (by omega)
    rw [e1]
    apply List.take_of_length_le
    split <;> omega
theorem longer_eq {lead ring : List (Tp Int)} {many : Int} (h : 0 ≤ many) : longerM lead ring many = (longM lead ring many).take many.toNat := by
  unfold longerM
  exact cut_take _ h
theorem longer_len {lead ring : List (Tp Int)} {many : Int} (hr : 0 < ring.length) (h : 0 ≤ many) : ((longerM lead ring many).length : Int) = many := by
  rw [longer_eq h, List.length_take]
  obtain ⟨m, _, h2, _⟩ := long_spec (lead := lead) hr many
  omega
theorem longer_getD {lead ring : List (Tp Int)} {many : Int} (h : 0 ≤ many) {i : Nat} (hi : (i : Int) < many) : (longerM lead ring many).getD i ⟨[]⟩ = (longM lead ring many).getD i ⟨[]⟩ := by
  rw [longer_eq h, List.getD_eq_getElem?_getD, List.getD_eq_getElem?_getD, List.getElem?_take, if_pos (by omega)]
theorem long_mem {lead ring : List (Tp Int)} {many : Int} (hr : 0 < ring.length) {t : Tp Int} (h : t ∈ longM lead ring many) : t ∈ lead ∨ t ∈ ring := by
  obtain ⟨m, h1, _, _⟩ := long_spec (lead := lead) hr many
  rw [h1] at h
  rcases List.mem_append.mp h with q | q
  · exact .inl q
  · obtain ⟨l, hl, hq⟩ := List.mem_flatten.mp q
    rw [List.eq_of_mem_replicate hl] at hq
    exact .inr hq
theorem longer_mem {lead ring : List (Tp Int)} {many : Int} (hr : 0 < ring.length) (h0 : 0 ≤ many) {t : Tp Int} (h : t ∈ longerM lead ring many) : t ∈ lead ∨ t ∈ ring := by
  rw [longer_eq h0] at h
  exact long_mem hr (List.mem_of_mem_take h)
/-! ### lists that show never -/
@[irreducible] def showsM (along : List (Tp Int)) (b s : Int) (some : List Int) : Bool := decide (some.length = along.length) && (enumI some).all fun p => decide (-1 ≤ p.2) && decide (p.2 < p.1) && decide (s < lackM (ix along p.1).l b p.1 p.2)
@[irreducible] def neverM (n : Int) (lead ring : List (Tp Int)) (b s : Int) (some : List Int) : Bool := decide ((some.length : Int) = manyM n lead ring b) && (enumI some).all fun p => barsM n (longM lead ring (manyM n lead ring b)) b s p.1 p.2
theorem shows_eq {n b s : Int} {lead ring : List (Tp Int)} {along : List (Tp Int)} {some : List Int} (hn : 0 ≤ n) (hb : 0 < b) (hr : 0 < ring.length) (ht : ∀ t, t ∈ lead ∨ t ∈ ring → ∀ s ∈ t.l, 0 ≤ s)
    (ha : along = cutL (alongM n (longerM lead ring (manyM n lead ring b))) none (Option.some (manyM n lead ring b))) : neverM n lead ring b s some = showsM along b s some := by
  have hm : 0 ≤ manyM n lead ring b := by
    show 0 ≤ (lead.length : Int) + (ring.length : Int) + (n + b - 1) / b
    have : 0 ≤ (n + b - 1) / b := Int.ediv_nonneg (by omega) (by omega)
    omega
  unfold neverM showsM
  generalize manyM n lead ring b = m at *
  rw [cut_take _ hm, along_eq hn fun t q => ht t (longer_mem hr hm q), longer_len hr hm, rng_succ hm, List.map_append] at ha
  have hl : ((rng 0 m).map fun k => (⟨lastsM n (longerM lead ring m) k⟩ : Tp Int)).length = m.toNat := by rw [List.length_map, len_rng, Int.sub_zero]
  rw [List.take_left' hl] at ha
  have hal : along.length = m.toNat := by rw [ha]; exact hl
  have e0 : decide (((some.length : Nat) : Int) = m) = decide (some.length = along.length) := by
    rw [hal]
    by_cases q : some.length = m.toNat
    · rw [decide_eq_true q, decide_eq_true (by omega)]
    · rw [decide_eq_false q, decide_eq_false (by omega)]
  rw [e0]
  by_cases q : some.length = along.length
  · rw [decide_eq_true q, Bool.true_and, Bool.true_and]
    apply Bool.eq_iff_iff.mpr
    rw [List.all_eq_true, List.all_eq_true]
    have key : ∀ p ∈ enumI some, barsM n (longM lead ring m) b s p.1 p.2 = (decide (-1 ≤ p.2) && decide (p.2 < p.1) && decide (s < lackM (ix along p.1).l b p.1 p.2)) := by
      intro p hp
      obtain ⟨h0, h1⟩ := mem_enumI.mp hp
      have h2 := (List.getElem?_eq_some_iff.mp h1).1
      have e1 : ix along p.1 = ⟨lastsM n (longM lead ring m) p.1⟩ := by
        unfold ix
        rw [ha, List.getD_eq_getElem?_getD, List.getElem?_map, rng_get (by omega)]
        simp only [Option.map_some, Option.getD_some, Int.zero_add]
        rw [show ((p.1.toNat : Nat) : Int) = p.1 by omega, lasts_congr fun i hi => longer_getD hm (by omega)]
      rw [e1]
      unfold barsM
      by_cases c : -1 ≤ p.2 ∧ p.2 < p.1
      · rw [if_pos c, decide_eq_true c.1, decide_eq_true c.2]; rfl
      · rw [if_neg c]
        by_cases c1 : -1 ≤ p.2
        · rw [decide_eq_false (show ¬ p.2 < p.1 from fun z => c ⟨c1, z⟩)]; simp
        · rw [decide_eq_false c1]; rfl
    exact ⟨fun h p hp => by rw [← key p hp]; exact h p hp, fun h p hp => by rw [key p hp]; exact h p hp⟩
  · rw [decide_eq_false q, Bool.false_and, Bool.false_and]
end GL
namespace GL
open PySem PySem.Spec PyProof.Rows L2
structure RingOk (n : Int) (y : List (Tp Int) × List (Tp Int)) : Prop where
  lead : TrLaw n 14 y.1
  ring : TrLaw n 20 y.2
  pos : 0 < y.2.length
theorem ring_pos {r : List (Tp Int)} (h : r ≠ []) : 0 < r.length := List.length_pos_iff.mpr h
theorem ring_one {n : Int} {z : Spr} (n0 : 1 ≤ n) : TrLaw n 20 [⟨(List.replicate (lawCup (lawCup (lawCup z n).2 n).2 2).1.toNat (usrt [(lawCup z n).1, (lawCup (lawCup z n).2 n).1])).flatten⟩] ∧ 0 < ([⟨(List.replicate (lawCup (lawCup (lawCup z n).2 n).2 2).1.toNat (usrt [(lawCup z n).1, (lawCup (lawCup z n).2 n).1])).flatten⟩] : List (Tp Int)).length := by
  refine ⟨⟨by simp, fun t ht => ?_⟩, by simp⟩
  rw [List.mem_singleton.mp ht]
  have h2 := cup_bd (lawCup (lawCup z n).2 n).2 (m := 2) (by decide)
  have h3 := cup_bd z (m := n) (by omega)
  have h4 := cup_bd (lawCup z n).2 (m := n) (by omega)
  generalize (lawCup (lawCup (lawCup z n).2 n).2 2).1 = d at *
  have : d = 0 ∨ d = 1 := by omega
  rcases this with rfl | rfl
  · exact ⟨by simp, by simp⟩
  · refine ⟨by simpa using usrt_pw _, fun s hs => ?_⟩
    simp [mem_usrt] at hs
    rcases hs with rfl | rfl
    · exact h3
    · exact h4
theorem ring_tl {n : Int} {z : Spr} {tr : List (Tp Int)} (h : TrLaw n (ix [0, 6, 14] (lawCup z 3).1) tr) : TrLaw n 14 tr := by
  have := ix_all (P := fun y : Int => y ≤ 14) (xs := [0, 6, 14]) (by decide) (ix3 (cup_bd z (m := 3) (by decide)))
  exact ⟨by have := h.len; omega, h.row⟩
theorem ring_tr {n : Int} {z : Spr} {tr : List (Tp Int)} (h : TrLaw n (ix [3, 8, 20] (lawCup z 3).1) tr) : TrLaw n 20 tr := by
  have := ix_all (P := fun y : Int => y ≤ 20) (xs := [3, 8, 20]) (by decide) (ix3 (cup_bd z (m := 3) (by decide)))
  exact ⟨by have := h.len; omega, h.row⟩
theorem all_map {α : Type} (f : α → Bool) (l : List α) : (l.map f).all id = l.all f := by rw [List.all_map]; rfl
def shB (along : List (Tp Int)) (b s : Int) (_ : Unit) (p : Int × Int) : Fl Unit Bool := if (!(decide (-1 ≤ p.2) && decide (p.2 < p.1)) || decide (lackM (ix along p.1).l b p.1 p.2 ≤ s)) = true then .rt false else .nx ()
theorem shows_loop {along : List (Tp Int)} {b s : Int} {some : List Int} (h : some.length = along.length) : forL (shB along b s) (fun _ => true) (enumI some) () = showsM along b s some := by
  unfold showsM
  rw [decide_eq_true h, Bool.true_and]
  generalize enumI some = l
  induction l with
  | nil => rfl
  | cons p l ih =>
    rw [List.all_cons, ← ih, forL]
    by_cases h1 : -1 ≤ p.2
    · by_cases h2 : p.2 < p.1
      · by_cases h3 : s < lackM (ix along p.1).l b p.1 p.2
        · have e : shB along b s () p = .nx () := by simp [shB, h1, h2, Int.not_le.mpr h3]
          rw [e]
          simp [h1, h2, h3]
        · have e : shB along b s () p = .rt false := by simp [shB, h1, h2, Int.not_lt.mp h3]
          rw [e]
          simp [h3]
      · have e : shB along b s () p = .rt false := by simp [shB, h2]
        rw [e]
        simp [h2]
    · have e : shB along b s () p = .rt false := by simp [shB, h1]
      rw [e]
      simp [h1]
def bentM (z : Spr) (some : List Int) : List Int × Spr :=
  let c0 := lawCup z some.length
  let c1 := lawCup c0.2 8
  let one := ix [-1, -2, c0.1, c0.1 - 1, (10 : Int) ^ (30 : Int).toNat, -(10 : Int) ^ (30 : Int).toNat, ix some c0.1 + 1, ix some c0.1 - 1] c1.1
  let more := [cutL some none (Option.some c0.1) ++ cutL some (Option.some (c0.1 + 1)) none, some ++ cutL some (Option.some (-1)) none, cutL some none (Option.some c0.1) ++ [one] ++ cutL some (Option.some (c0.1 + 1)) none, some.reverse, cutL some none (Option.some (-1))]
  let more1 := more ++ [cutL some none (Option.some c0.1) ++ [one] ++ cutL some (Option.some c0.1) none, cutL some (Option.some 1) none ++ cutL some none (Option.some 1), [], cutL some none (Option.some c0.1) ++ [one] ++ cutL some (Option.some (c0.1 + 1)) none]
  (ix more1 (lawCup c1.2 9).1, (lawCup c1.2 9).2)
end GL
namespace GL
open PySem PySem.Spec PyProof.Rows L2
theorem ring_b1 (z : Spr) : 0 ≤ ix ([0, 6, 14] : List Int) (lawCup z 3).1 ∧ ix ([0, 6, 14] : List Int) (lawCup z 3).1 ≤ 1000 := ix_all (P := fun y : Int => 0 ≤ y ∧ y ≤ 1000) (xs := [0, 6, 14]) (by decide) (ix3 (cup_bd z (m := 3) (by decide)))
theorem ring_b2 (z : Spr) : 0 ≤ ix ([3, 8, 20] : List Int) (lawCup z 3).1 ∧ ix ([3, 8, 20] : List Int) (lawCup z 3).1 ≤ 1000 := ix_all (P := fun y : Int => 0 ≤ y ∧ y ≤ 1000) (xs := [3, 8, 20]) (by decide) (ix3 (cup_bd z (m := 3) (by decide)))
theorem usrt_ne {x : Int} {xs : List Int} : usrt (x :: xs) ≠ [] := fun e => by
  have : x ∈ usrt (x :: xs) := mem_usrt.mpr List.mem_cons_self
  rw [e] at this
  cases this
theorem len_usrt (xs : List Int) : (usrt xs).length ≤ xs.length := by
  unfold usrt
  rw [(srt_perm _).length_eq]
  have : ∀ (n : Nat) (xs : List Int), xs.length ≤ n → xs.eraseDups.length ≤ xs.length := by
    intro n
    induction n with
    | zero => intro xs h; have : xs = [] := List.length_eq_zero_iff.mp (by omega); subst this; simp
    | succ n ih =>
      intro xs h
      cases xs with
      | nil => simp
      | cons x xs =>
        rw [List.eraseDups_cons, List.length_cons, List.length_cons]
        have h1 := List.length_filter_le (fun b => !b == x) xs
        have h2 := ih (xs.filter fun b => !b == x) (by simp at h; omega)
        omega
  exact this _ xs (Nat.le_refl _)
theorem len_cut {δ : Type} (xs : List δ) (lo hi : Option Int) : (cutL xs lo hi).length ≤ xs.length := by
  unfold cutL
  rw [List.length_take, List.length_drop]
  omega
end GL
namespace GL
open PySem PySem.Spec PyProof.Rows L2
theorem mod_ix {δ : Type} {x m : Int} {l : List δ} (h : m = l.length) (hm : 0 < m) : 0 ≤ x % m ∧ x % m < l.length := by
  rw [← h]
  exact ⟨Int.emod_nonneg _ (by omega), Int.emod_lt_of_pos _ hm⟩
theorem k24_along {n m : Int} {lead ring : List (Tp Int)} (hn : 0 ≤ n) (hm : 0 ≤ m) (hr : 0 < ring.length) (ht : ∀ t, t ∈ lead ∨ t ∈ ring → ∀ s ∈ t.l, 0 ≤ s) :
    (∀ t ∈ cutL (alongM n (longerM lead ring m)) none (some m), t.l.length = n.toNat) ∧ (cutL (alongM n (longerM lead ring m)) none (some m)).length = m.toNat := by
  rw [cut_take _ hm, along_eq hn fun t q => ht t (longer_mem hr hm q), longer_len hr hm]
  refine ⟨fun t q => ?_, ?_⟩
  · obtain ⟨k, _, rfl⟩ := List.mem_map.mp (List.mem_of_mem_take q)
    exact len_lasts _ _ _
  · rw [List.length_take, List.length_map, len_rng]
    omega
abbrev far24 : List (Tp Int) := longM (List.replicate 300 ⟨[0]⟩) (List.replicate 299 ⟨[0]⟩) 600
theorem far24_at {i : Nat} (h : i < 600) : far24.getD i ⟨[]⟩ = ⟨[0]⟩ := by
  unfold far24
  rw [long_at (by rw [List.length_replicate]; omega) (by omega), List.length_replicate]
  by_cases q : i < 300
  · rw [if_pos q, rep_getD q]
  · rw [if_neg q, List.length_replicate, rep_getD (Nat.mod_lt _ (by omega))]
theorem far24_last {j : Int} (h0 : 0 ≤ j) (h1 : j < 600) : lastW far24 j 0 = j - 1 := by
  by_cases h : j = 0
  · subst h
    exact lastW_none fun i hi => by omega
  · exact lastW_at (by omega) (by omega) (by rw [far24_at (by omega)]; simp) fun i h2 h3 => by omega
theorem far24_bars {j t : Int} (h0 : 0 ≤ j) (h1 : j < 600) (h2 : -1 ≤ t) (h3 : t < j) : barsM 1 far24 1 0 j t = decide (0 < 1 - (j - t - 1)) := by
  unfold barsM lackM lastsM
  have e : rng 0 1 = [0] := by decide
  rw [if_pos ⟨h2, h3⟩, e, List.map_cons, List.map_nil, far24_last h0 h1, List.filter_cons, if_pos (decide_eq_true (by omega))]
  simp
theorem far24_many : manyM 1 (List.replicate 300 (⟨[0]⟩ : Tp Int)) (List.replicate 299 ⟨[0]⟩) 1 = 600 := by
  unfold manyM
  rw [List.length_replicate, List.length_replicate]
  decide
theorem far24_yes : neverM 1 (List.replicate 300 (⟨[0]⟩ : Tp Int)) (List.replicate 299 ⟨[0]⟩) 1 0 (rng (-1) 599) = true := by
  unfold neverM
  rw [far24_many, len_rng]
  rw [decide_eq_true (by decide), Bool.true_and, List.all_eq_true]
  intro p hp
  obtain ⟨h0, h1⟩ := mem_enumI.mp hp
  have h2 := (List.getElem?_eq_some_iff.mp h1).1
  rw [len_rng] at h2
  rw [rng_get h2] at h1
  have h3 : -1 + ((p.1.toNat : Nat) : Int) = p.2 := Option.some.inj h1
  rw [far24_bars (by omega) (by omega) (by omega) (by omega)]
  exact decide_eq_true (by omega)
theorem far24_no : neverM 1 (List.replicate 300 (⟨[0]⟩ : Tp Int)) (List.replicate 299 ⟨[0]⟩) 1 0 (cutL (rng (-1) 599) none (some (-1)) ++ [597]) = false := by
  unfold neverM
  rw [far24_many]
  have hl : (cutL (rng (-1) 599) none (some (-1))).length = 599 := by
    unfold cutL HT.sIx
    rw [List.length_take, List.length_drop, len_rng]
    decide
  have hm : ((599 : Int), (597 : Int)) ∈ enumI (cutL (rng (-1) 599) none (some (-1)) ++ [597]) := mem_enumI.mpr ⟨by decide, by
    show (cutL (rng (-1) 599) none (some (-1)) ++ [597])[599]? = some 597
    rw [List.getElem?_append_right (by omega), hl]
    rfl⟩
  have : ((enumI (cutL (rng (-1) 599) none (some (-1)) ++ [597])).all fun p => barsM 1 far24 1 0 p.1 p.2) = false := by
    apply Bool.eq_false_iff.mpr
    intro h
    have := List.all_eq_true.mp h _ hm
    rw [far24_bars (by decide) (by decide) (by decide) (by decide)] at this
    exact absurd this (by decide)
  rw [this, Bool.and_false]
theorem far24_tr (k : Nat) (h : k ≤ 1000) : TrOk ((List.replicate k [(⟨[0]⟩ : Tp Int)]).flatten) := by
  rw [flat_one]
  exact ⟨by rw [List.length_replicate]; omega, fun t ht s hs => by rw [List.eq_of_mem_replicate ht] at hs; simp at hs; omega⟩
end GL

namespace GL
open PySem PySem.Spec PyProof.Rows L2
section
variable {K : Fg} {B S0 S1 S S' D : Hp} {σ : L2.St} {H H' : Hp} {F : Nat → List Addr} {G G' G1 G2 G3 : List Sl} {ta tb tc te : TE} {i j : Nat} {t u w : TS} {E : Ends} {tt : TT} {b : Bool}
/-- if c: .. else: .. where it is known that c is false -/
theorem q_ifFe (h : EvT K tt G b G1) (hb : b = false) (k : At K B S0 (w { E with nx := u E }) G1) : At K B S0 (tSeq (tIfS tt t w) u E) G := q_if h (fun e => by rw [hb] at e; cases e) fun _ => k
theorem q_ifFc (h : EvT K tt G b G1) (hb : b = false) (k : At K B S0 (w E) G1) : At K B S0 (tIfS tt t w E) G := q_ifc h (fun e => by rw [hb] at e; cases e) fun _ => k
end
/-! ### the greatest lack stands at a last writing -/
@[irreducible] def leastT (ls : List Int) (b stop : Int) : Int := maxL ([0] ++ ls.map fun t => lackM ls b stop t)
theorem leastT_eq {n b stop : Int} {trace : List (Tp Int)} (hb : 0 ≤ b) (h0 : 0 ≤ stop) : leastT (lastsM n trace stop) b stop = (leastM n trace b stop).1 := by
  obtain ⟨h1, h2, h3, h4⟩ := least_spec (n := n) (trace := trace) hb h0
  unfold leastT
  refine (maxL_eq ?_ ?_).symm
  · unfold leastM lsFold
    have I := ls_inv (lastsM n trace stop) b stop (usrt (lastsM n trace stop))
    cases e : ((usrt (lastsM n trace stop)).foldl (lsStep (lastsM n trace stop) b stop) (0, none)).2 with
    | none => rw [I.nil.mpr e]; simp
    | some t =>
      have := I.at_ t e
      exact List.mem_append_right _ (List.mem_map.mpr ⟨t, mem_usrt.mp this.1, this.2.2⟩)
  · intro y hy
    rcases List.mem_append.mp hy with q | q
    · rw [List.mem_singleton.mp q]; exact h1
    · obtain ⟨t, ht, rfl⟩ := List.mem_map.mp q
      exact h2 t (lasts_bd h0 ht).2.1
/-! ### the stops that are free -/
theorem enum_map_rng {δ : Type} (f : Int → δ) (m : Int) : enumI ((rng 0 m).map f) = (rng 0 m).map fun k => (k, f k) := by
  apply List.ext_getElem?
  intro i
  unfold enumI
  rw [List.getElem?_map, List.getElem?_zipIdx, List.getElem?_map, List.getElem?_map]
  by_cases h : i < m.toNat
  · rw [rng_get (by omega)]
    simp
  · rw [List.getElem?_eq_none (by rw [len_rng]; omega)]
    rfl
theorem free_eq {n b s m : Int} {T : List (Tp Int)} (hb : 0 ≤ b) : ((enumI ((rng 0 m).map fun k => (⟨lastsM n T k⟩ : Tp Int))).filter fun x => decide (leastT x.2.l b x.1 ≤ s)).map (fun x => x.1) = (rng 0 m).filter fun k => decide ((leastM n T b k).1 ≤ s) := by
  rw [enum_map_rng, List.filter_map, List.map_map]
  have e : (rng 0 m).filter ((fun x : Int × Tp Int => decide (leastT x.2.l b x.1 ≤ s)) ∘ fun k => (k, (⟨lastsM n T k⟩ : Tp Int))) = (rng 0 m).filter fun k => decide ((leastM n T b k).1 ≤ s) := by
    apply List.filter_congr
    intro k hk
    have := mem_rng.mp hk
    show decide (leastT (lastsM n T k) b k ≤ s) = _
    rw [leastT_eq hb this.1]
  rw [e]
  have e2 : ∀ l : List Int, l.map ((fun x : Int × Tp Int => x.1) ∘ fun k => (k, (⟨lastsM n T k⟩ : Tp Int))) = l := fun l => by
    have : (fun x : Int × Tp Int => x.1) ∘ (fun k => (k, (⟨lastsM n T k⟩ : Tp Int))) = id := rfl
    rw [this, List.map_id]
  rw [e2]
theorem rng_head (p : Int → Bool) (m : Int) : (rng 0 m).filter p = [] ∨ ∃ m0 rest, (rng 0 m).filter p = m0 :: rest ∧ 0 ≤ m0 ∧ m0 < m ∧ p m0 = true ∧ ∀ j, 0 ≤ j → j < m0 → p j = false := by
  cases e : (rng 0 m).filter p with
  | nil => exact .inl rfl
  | cons m0 rest =>
    right
    have hm : m0 ∈ (rng 0 m).filter p := by rw [e]; exact List.mem_cons_self
    obtain ⟨h1, h2⟩ := List.mem_filter.mp hm
    have h3 := mem_rng.mp h1
    refine ⟨m0, rest, rfl, h3.1, h3.2, h2, fun j j0 j1 => ?_⟩
    cases q : p j with
    | false => rfl
    | true =>
      have hj : j ∈ (rng 0 m).filter p := List.mem_filter.mpr ⟨mem_rng.mpr ⟨j0, by omega⟩, q⟩
      have hs : ((rng 0 m).filter p).Pairwise (· < ·) := (rng_sorted 0 m).sublist List.filter_sublist
      rw [e] at hj hs
      rcases List.mem_cons.mp hj with z | z
      · omega
      · have := (List.pairwise_cons.mp hs).1 j z
        omega
theorem filter_nil_of {p : Int → Bool} {m : Int} (h : (rng 0 m).filter p = []) : ∀ j, 0 ≤ j → j < m → p j = false := fun j h0 h1 => by
  have := List.filter_eq_nil_iff.mp h j (mem_rng.mpr ⟨h0, h1⟩)
  simpa using this
/-- what is told of all stops ahead of m -/
theorem scan_cases {w : Str} {n b s m : Int} {T : List (Tp Int)} {free : List Int} (hn : 0 ≤ n) (hn1 : n ≤ 60) (hb : 0 < b) (hs : 0 ≤ s) (hf : free = (rng 0 m).filter fun k => decide ((leastM n T b k).1 ≤ s)) :
    (∃ m0 cs, ix free 0 = m0 ∧ free ≠ [] ∧ 0 < free.length ∧ 0 ≤ m0 ∧ m0 < m ∧ scanM w n T b s m = .inl ⟨Str.ofString "stop", m0, cs⟩ ∧ GoodC n T b s m0 cs) ∨
    (∃ ts, free = [] ∧ scanM w n T b s m = .inr (w, ts) ∧ ts.length = m.toNat ∧ ∀ p ∈ enumI ts, -1 ≤ p.2 ∧ p.2 < p.1 ∧ s < lackM (lastsM n T p.1) b p.1 p.2) := by
  rcases rng_head (fun k => decide ((leastM n T b k).1 ≤ s)) m with q | ⟨m0, rest, e, h0, h1, h2, h3⟩
  · right
    have hall : ∀ j, 0 ≤ j → j < m → s < (leastM n T b j).1 := fun j j0 j1 => by
      have := of_decide_eq_false (filter_nil_of q j j0 j1)
      omega
    refine ⟨_, by rw [hf]; exact q, scan_all hall, by rw [List.length_map, len_rng]; omega, fun p hp => ?_⟩
    obtain ⟨p0, p1⟩ := mem_enumI.mp hp
    have p2 := (List.getElem?_eq_some_iff.mp p1).1
    rw [List.length_map, len_rng] at p2
    rw [List.getElem?_map, rng_get (by omega)] at p1
    have p3 : (leastM n T b (0 + (p.1.toNat : Int))).2.getD default = p.2 := Option.some.inj p1
    rw [show (0 : Int) + (p.1.toNat : Int) = p.1 by omega] at p3
    have := least_bars (n := n) (trace := T) (b := b) (s := s) (stop := p.1) (by omega) p0 hs (hall p.1 p0 (by omega))
    rw [p3] at this
    unfold barsM at this
    by_cases c : -1 ≤ p.2 ∧ p.2 < p.1
    · rw [if_pos c] at this
      exact ⟨c.1, c.2, of_decide_eq_true this⟩
    · rw [if_neg c] at this
      cases this
  · left
    have hle := of_decide_eq_true h2
    refine ⟨m0, _, by rw [hf, e]; rfl, by rw [hf, e]; simp, by rw [hf, e]; simp, h0, h1, scan_stop h0 h1 (fun j j0 j1 => by have := of_decide_eq_false (h3 j j0 j1); omega) hle, plan_good hn hn1 hb hs h0 hle⟩
end GL
namespace GL
open PySem PySem.Spec PyProof.Rows L2
theorem ix_map_rng {δ : Type} [Inhabited δ] {f : Int → δ} {m i : Int} (h0 : 0 ≤ i) (h1 : i < m) : ix ((rng 0 m).map f) i = f i := by
  unfold ix
  rw [List.getD_eq_getElem?_getD, List.getElem?_map, rng_get (by omega)]
  simp only [Option.map_some, Option.getD_some, Int.zero_add]
  rw [show ((i.toNat : Nat) : Int) = i by omega]
theorem cut_rep_mem {T : List (Tp Int)} {k : Nat} {m : Int} {t : Tp Int} (hm : 0 ≤ m) (h : t ∈ cutL ((List.replicate k T).flatten) none (some m)) : t ∈ T := by
  rw [cut_take _ hm] at h
  obtain ⟨l, hl, hq⟩ := List.mem_flatten.mp (List.mem_of_mem_take h)
  rw [List.eq_of_mem_replicate hl] at hq
  exact hq
theorem cut_rep_len {T : List (Tp Int)} {k : Nat} {m : Int} (hm : 0 ≤ m) : (cutL ((List.replicate k T).flatten) none (some m)).length ≤ m.toNat := by
  rw [cut_take _ hm, List.length_take]
  omega
abbrev far19 : List (Tp Int) := List.replicate 600 (⟨[0]⟩ : Tp Int) ++ [⟨[]⟩]
theorem far19_at {i : Nat} (h : i < 600) : far19.getD i ⟨[]⟩ = ⟨[0]⟩ := by
  rw [List.getD_eq_getElem?_getD, List.getElem?_append_left (by rw [List.length_replicate]; exact h), List.getElem?_replicate, if_pos h]
  rfl
theorem far19_last {j : Int} (h0 : 0 ≤ j) (h1 : j ≤ 600) : lastW far19 j 0 = j - 1 := by
  by_cases h : j = 0
  · subst h
    exact lastW_none fun i hi => by omega
  · exact lastW_at (by omega) (by omega) (by rw [far19_at (by omega)]; simp) fun i h2 h3 => by omega
theorem far19_last2 : lastW far19 601 0 = 599 := by
  refine lastW_at (by omega) (by omega) (by rw [far19_at (by omega)]; simp) fun i h2 h3 => ?_
  have : i = 600 := by omega
  subst this
  rw [List.getD_eq_getElem?_getD, List.getElem?_append_right (by rw [List.length_replicate]; omega), List.length_replicate]
  simp
theorem lasts_one {T : List (Tp Int)} {stop : Int} : lastsM 1 T stop = [lastW T stop 0] := by
  unfold lastsM
  have e : rng 0 1 = [0] := by decide
  rw [e]
  rfl
/-- one sheet: barred just where its last writing is the tick ahead -/
theorem least_one {T : List (Tp Int)} {stop : Int} (h0 : 0 ≤ stop) : (0 < (leastM 1 T 1 stop).1 ↔ lastW T stop 0 = stop - 1) := by
  have e := leastT_eq (n := 1) (b := 1) (stop := stop) (trace := T) (by decide) h0
  rw [← e, lasts_one]
  unfold leastT
  have hl : lackM [lastW T stop 0] 1 stop (lastW T stop 0) = 1 - (stop - lastW T stop 0 - 1) := by
    unfold lackM
    rw [List.filter_cons, if_pos (decide_eq_true (Int.le_refl _))]
    simp
  rw [List.map_cons, List.map_nil, hl]
  show 0 < max 0 (1 - (stop - lastW T stop 0 - 1)) ↔ _
  have hb := lasts_bd (n := 1) (trace := T) (x := lastW T stop 0) h0 (by rw [lasts_one]; simp)
  omega
theorem one_copy {T : List (Tp Int)} {stop : Int} : srt2 (plc 1 stop (dueM (lastsM 1 T stop) (max 0 (1 - 0))).reverse) = [(stop - 1, 0)] := by
  rw [lasts_one]
  generalize lastW T stop 0 = l
  have e1 : srt2 ((enumI [l]).map fun x => (x.2, x.1)) = [(l, 0)] := (srt2_eq (List.Perm.refl _) (List.pairwise_singleton _ _)).symm
  have e2 : dueM [l] (max 0 (1 - 0)) = [0] := by
    unfold dueM
    rw [e1]
    show cutL [(0 : Int)] none (some (max 0 (1 - 0))) = [0]
    decide
  rw [e2]
  have e3 : plc 1 stop [(0 : Int)].reverse = [(stop - 1, 0)] := by
    unfold plc
    show [(stop - 1 - 0 / 1, (0 : Int))] = _
    simp
  rw [e3]
  exact (srt2_eq (List.Perm.refl _) (List.pairwise_singleton _ _)).symm
theorem far19_told {w : Str} {T : List (Tp Int)} {m m0 : Int} (h0 : 0 ≤ m0) (h1 : m0 < m) (hb : ∀ j, 0 ≤ j → j < m0 → lastW T j 0 = j - 1) (hm : lastW T m0 0 ≠ m0 - 1) : scanM w 1 T 1 0 m = .inl ⟨Str.ofString "stop", m0, [(m0 - 1, 0)]⟩ := by
  rw [scan_stop h0 h1 (fun j j0 j1 => (least_one j0).mpr (hb j j0 j1)) (Int.not_lt.mp fun q => hm ((least_one h0).mp q)), one_copy]
theorem far19_ok : TrOk far19 := ⟨by rw [List.length_append, List.length_replicate]; simp, fun t ht s hs => by
  rcases List.mem_append.mp ht with q | q
  · rw [List.eq_of_mem_replicate q] at hs; simp at hs; omega
  · rw [List.mem_singleton.mp q] at hs; simp at hs⟩
theorem far19_len : (far19.length : Int) + 1 = 602 := by rw [List.length_append, List.length_replicate]; decide
theorem far19_yes {w : Str} : scanM w 1 far19 1 0 (far19.length + 1) = .inl ⟨Str.ofString "stop", 601, [(600, 0)]⟩ := by
  rw [far19_len]
  exact far19_told (by decide) (by decide) (fun j j0 j1 => far19_last j0 (by omega)) (by rw [far19_last2]; decide)
end GL

namespace GL
open PySem PySem.Spec PyProof.Rows L2
/-! ### what a plan is -/
def cntA (cs : List (Int × Int)) (t : Int) : Int := ((cs.filter fun p => decide (p.1 = t)).length : Int)
def gdC (n b stop : Int) (cs : List (Int × Int)) (p : Int × Int) : Bool := inT stop p.1 && inT n p.2 && decide (cntA cs p.1 ≤ b)
@[irreducible] def isPlanM (n : Int) (T : List (Tp Int)) (b s : Int) (plan : List (Int × Int) × Int) : Bool := (decide (0 ≤ plan.2) && decide (plan.1 = usrt2 plan.1)) && (plan.1.all (gdC n b plan.2 plan.1) && decide (((leftM n T plan).length : Int) ≤ s))
theorem isPlan_of {n : Int} {T : List (Tp Int)} {b s : Int} {plan : List (Int × Int) × Int} (h0 : 0 ≤ plan.2) (h1 : plan.1.Pairwise lt2) (h2 : ∀ p ∈ plan.1, gdC n b plan.2 plan.1 p = true) : isPlanM n T b s plan = decide (((leftM n T plan).length : Int) ≤ s) := by
  unfold isPlanM
  rw [decide_eq_true h0, decide_eq_true (usrt2_eq h1 fun _ => Iff.rfl), List.all_eq_true.mpr h2]
  rfl
theorem isPlan_no0 {n : Int} {T : List (Tp Int)} {b s : Int} {plan : List (Int × Int) × Int} (h0 : ¬ 0 ≤ plan.2) : isPlanM n T b s plan = false := by
  unfold isPlanM
  rw [decide_eq_false h0]
  rfl
theorem isPlan_no1 {n : Int} {T : List (Tp Int)} {b s : Int} {plan : List (Int × Int) × Int} (h : plan.1 ≠ usrt2 plan.1) : isPlanM n T b s plan = false := by
  unfold isPlanM
  rw [decide_eq_false h, Bool.and_false]
  rfl
theorem isPlan_no2 {n : Int} {T : List (Tp Int)} {b s : Int} {plan : List (Int × Int) × Int} {p : Int × Int} (hp : p ∈ plan.1) (h : gdC n b plan.2 plan.1 p = false) : isPlanM n T b s plan = false := by
  unfold isPlanM
  have : plan.1.all (gdC n b plan.2 plan.1) = false := by
    rw [List.all_eq_false]
    exact ⟨p, hp, by rw [h]; decide⟩
  rw [this, Bool.false_and, Bool.and_false]
theorem pw_not_usrt2 {cs : List (Int × Int)} (h : ¬ cs.Pairwise lt2) : cs ≠ usrt2 cs := fun e => h (by rw [e]; exact usrt2_pw cs)
/-- along the copies -/
structure IpI (n b stop : Int) (pre : List (Int × Int)) (d : Dct Int) : Prop where
  cnt : ∀ t, (d.get? t).getD 0 = ((pre.filter fun p => decide (p.1 = t)).length : Int)
  len : d.l.length ≤ pre.length
  good : ∀ p ∈ pre, inT stop p.1 = true ∧ inT n p.2 = true ∧ cntA pre p.1 ≤ b
theorem IpI.start (n b stop : Int) : IpI n b stop [] Dct.emp := ⟨fun t => rfl, Nat.le_refl _, fun p hp => nomatch hp⟩
theorem cnt_mono {pre post : List (Int × Int)} (t : Int) : cntA pre t ≤ cntA (pre ++ post) t := by
  unfold cntA
  rw [List.filter_append, List.length_append]
  omega
theorem cnt_snoc (pre : List (Int × Int)) (it : Int × Int) (t : Int) : cntA (pre ++ [it]) t = if it.1 = t then cntA pre t + 1 else cntA pre t := by
  unfold cntA
  rw [List.filter_append, List.length_append, List.filter_cons, List.filter_nil]
  by_cases h : it.1 = t
  · rw [if_pos h, if_pos (decide_eq_true h)]
    rfl
  · rw [if_neg h, if_neg (by rw [decide_eq_false h]; decide)]
    rfl
theorem IpI.dix {n b stop : Int} {pre : List (Int × Int)} {d : Dct Int} {it : Int × Int} (h : IpI n b stop pre d) : dix (d.put it.1 ((d.get? it.1).getD 0 + 1)) it.1 = cntA (pre ++ [it]) it.1 := by
  rw [dix_put, if_pos rfl, h.cnt, cnt_snoc, if_pos rfl]
  rfl
theorem IpI.next {n b stop : Int} {pre : List (Int × Int)} {d : Dct Int} {it : Int × Int} (h : IpI n b stop pre d) (h1 : inT stop it.1 = true) (h2 : inT n it.2 = true) (h3 : cntA (pre ++ [it]) it.1 ≤ b) : IpI n b stop (pre ++ [it]) (d.put it.1 ((d.get? it.1).getD 0 + 1)) := by
  obtain ⟨c1, c2⟩ := cnt_put h.cnt h.len (it := it)
  refine ⟨c1, c2, fun p hp => ?_⟩
  rcases List.mem_append.mp hp with q | q
  · obtain ⟨g1, g2, g3⟩ := h.good p q
    refine ⟨g1, g2, ?_⟩
    by_cases e : it.1 = p.1
    · rw [← e]; exact h3
    · rw [cnt_snoc, if_neg e]; exact g3
  · rw [List.mem_singleton.mp q]
    exact ⟨h1, h2, h3⟩
theorem IpI.bad {n b s : Int} {T : List (Tp Int)} {plan : List (Int × Int) × Int} {pre post : List (Int × Int)} {it : Int × Int} (e : pre ++ it :: post = plan.1) (h : ((!inT plan.2 it.1) || ((!inT n it.2) || decide (b < cntA (pre ++ [it]) it.1))) = true) : isPlanM n T b s plan = false := by
  refine isPlan_no2 (p := it) (by rw [← e]; simp) ?_
  unfold gdC
  have hm := cnt_mono (pre := pre ++ [it]) (post := post) it.1
  rw [List.append_assoc, List.singleton_append, e] at hm
  rcases Bool.or_eq_true _ _ ▸ h with q | q
  · rw [show inT plan.2 it.1 = false by simpa using q]
    rfl
  · rcases Bool.or_eq_true _ _ ▸ q with q | q
    · rw [show inT n it.2 = false by simpa using q, Bool.and_false]
      rfl
    · have := of_decide_eq_true q
      rw [decide_eq_false (show ¬ cntA plan.1 it.1 ≤ b by omega), Bool.and_false]
theorem IpI.all {n b stop : Int} {cs : List (Int × Int)} {d : Dct Int} (h : IpI n b stop cs d) : ∀ p ∈ cs, gdC n b stop cs p = true := fun p hp => by
  obtain ⟨g1, g2, g3⟩ := h.good p hp
  unfold gdC
  rw [g1, g2, decide_eq_true g3]
  rfl
/-! ### the law's own look -/
theorem enum_split {α : Type} {xs : List α} {pre post : List (Int × α)} {it : Int × α} (e : pre ++ it :: post = enumI xs) : xs = pre.map (·.2) ++ it.2 :: post.map (·.2) ∧ it.1 = pre.length := by
  have h1 := enumI_snd xs
  refine ⟨?_, ?_⟩
  · conv => lhs; rw [← h1, ← e, List.map_append, List.map_cons]
  · have h2 : (enumI xs)[pre.length]? = some it := by rw [← e, List.getElem?_append_right (Nat.le_refl _), Nat.sub_self]; rfl
    unfold enumI at h2
    rw [List.getElem?_map, List.getElem?_zipIdx] at h2
    cases hx : xs[pre.length]? with
    | none => rw [hx] at h2; exact absurd h2 (by simp)
    | some x =>
      rw [hx] at h2
      simp at h2
      rw [← h2]
theorem lt2_trans {a b c : Int × Int} (h1 : lt2 a b) (h2 : lt2 b c) : lt2 a c := by
  unfold lt2 at *
  omega
theorem not_le2b {a b : Int × Int} : le2b a b = false ↔ lt2 b a := by
  rw [Bool.eq_false_iff, Ne, le2b_iff]
  unfold le2 lt2
  omega
theorem not_f {b : Bool} (h : (!b) = false) : b = true := by cases b <;> simp_all
theorem not_t {α : Type} [DecidableEq α] {x y : α} (h : (!decide (x = y)) = false) : x = y := of_decide_eq_true (not_f h)
theorem ix_mid {cs preL postL : List (Int × Int)} {x : Int × Int} (e : cs = preL ++ x :: postL) : ix cs preL.length = x := by
  unfold ix
  rw [e, List.getD_eq_getElem?_getD, show ((preL.length : Int)).toNat = preL.length by omega, List.getElem?_append_right (Nat.le_refl _), Nat.sub_self]
  rfl
theorem ix_ahead {cs preL postL : List (Int × Int)} {x : Int × Int} (e : cs = preL ++ x :: postL) (h : 0 < preL.length) : preL[preL.length - 1]? = some (ix cs ((preL.length : Int) - 1)) := by
  have h1 := ix_at (xs := cs) (i := (preL.length : Int) - 1) (by omega) (by rw [e, List.length_append]; omega)
  rw [show ((preL.length : Int) - 1).toNat = preL.length - 1 by omega] at h1
  rw [← h1, e, List.getElem?_append_left (by omega)]
theorem lw_next {cs preL postL : List (Int × Int)} {x : Int × Int} (e : cs = preL ++ x :: postL) (hp : preL.Pairwise lt2) (h : 0 < preL.length → lt2 (ix cs ((preL.length : Int) - 1)) x) : (preL ++ [x]).Pairwise lt2 := by
  refine List.pairwise_append.mpr ⟨hp, List.pairwise_singleton _ _, fun a ha b hb => ?_⟩
  rw [List.mem_singleton.mp hb]
  obtain ⟨i, hi, rfl⟩ := List.getElem_of_mem ha
  have h2 := h (by omega)
  have h3 := ix_ahead e (by omega)
  have h4 : preL[preL.length - 1] = ix cs ((preL.length : Int) - 1) := (List.getElem?_eq_some_iff.mp h3).2
  by_cases q : i = preL.length - 1
  · subst q
    rw [h4]
    exact h2
  · have h5 := List.pairwise_iff_getElem.mp hp i (preL.length - 1) hi (by omega) (by omega)
    rw [h4] at h5
    exact lt2_trans h5 h2
theorem lw_bad {cs preL postL : List (Int × Int)} {x : Int × Int} (e : cs = preL ++ x :: postL) (h0 : 0 < preL.length) (h : ¬ lt2 (ix cs ((preL.length : Int) - 1)) x) : ¬ cs.Pairwise lt2 := fun z => by
  rw [e] at z
  have h3 := ix_ahead e h0
  exact h ((List.pairwise_append.mp z).2.2 _ (List.mem_of_getElem? h3) x List.mem_cons_self)
structure LwI (n b stop : Int) (cs : List (Int × Int)) (pre : List (Int × (Int × Int))) : Prop where
  pw : (pre.map (·.2)).Pairwise lt2
  good : ∀ p ∈ pre, gdC n b stop cs p.2 = true
theorem LwI.start (n b stop : Int) (cs : List (Int × Int)) : LwI n b stop cs [] := ⟨List.Pairwise.nil, fun p hp => nomatch hp⟩
theorem lw_test1 {n b s : Int} {T : List (Tp Int)} {plan : List (Int × Int) × Int} {x : Int × Int} (hx : x ∈ plan.1) (h : (decide (x.1 < 0) || (decide (plan.2 ≤ x.1) || (decide (x.2 < 0) || decide (n ≤ x.2)))) = true) : isPlanM n T b s plan = false := by
  refine isPlan_no2 hx ?_
  unfold gdC inT
  simp only [Bool.or_eq_true, decide_eq_true_eq] at h
  rw [Bool.and_eq_false_iff, Bool.and_eq_false_iff, Bool.and_eq_false_iff, Bool.and_eq_false_iff]
  simp only [decide_eq_false_iff_not]
  omega
theorem lw_in {n stop : Int} {x : Int × Int} (h : (decide (x.1 < 0) || (decide (stop ≤ x.1) || (decide (x.2 < 0) || decide (n ≤ x.2)))) = false) : inT stop x.1 = true ∧ inT n x.2 = true := by
  simp only [Bool.or_eq_false_iff, decide_eq_false_iff_not] at h
  unfold inT
  simp only [Bool.and_eq_true, decide_eq_true_eq]
  omega
theorem LwI.bad {n b s : Int} {T : List (Tp Int)} {plan : List (Int × Int) × Int} {pre post : List (Int × (Int × Int))} {it : Int × (Int × Int)} (e : pre ++ it :: post = enumI plan.1) (h : ((decide (0 < it.1) && le2b (ix plan.1 it.1) (ix plan.1 (it.1 - 1))) || decide (b < cntA plan.1 it.2.1)) = true) : isPlanM n T b s plan = false := by
  obtain ⟨e1, e2⟩ := enum_split e
  have hl : (pre.map (·.2)).length = pre.length := List.length_map ..
  rcases Bool.or_eq_true _ _ ▸ h with q | q
  · obtain ⟨q1, q2⟩ := Bool.and_eq_true_iff.mp q
    have q3 := of_decide_eq_true q1
    refine isPlan_no1 (pw_not_usrt2 (lw_bad e1 (by omega) fun z => ?_))
    rw [e2, ← hl, ix_mid e1] at q2
    rw [not_le2b.mpr z] at q2
    exact absurd q2 Bool.false_ne_true
  · have q3 := of_decide_eq_true q
    refine isPlan_no2 (p := it.2) (by rw [e1]; simp) ?_
    unfold gdC
    rw [decide_eq_false (by omega), Bool.and_false]
theorem LwI.next {n b stop : Int} {cs : List (Int × Int)} {pre post : List (Int × (Int × Int))} {it : Int × (Int × Int)} (I : LwI n b stop cs pre) (e : pre ++ it :: post = enumI cs) (h1 : inT stop it.2.1 = true) (h2 : inT n it.2.2 = true) (h : ((decide (0 < it.1) && le2b (ix cs it.1) (ix cs (it.1 - 1))) || decide (b < cntA cs it.2.1)) = false) : LwI n b stop cs (pre ++ [it]) := by
  obtain ⟨e1, e2⟩ := enum_split e
  have hl : (pre.map (·.2)).length = pre.length := List.length_map ..
  obtain ⟨q1, q2⟩ := Bool.or_eq_false_iff.mp h
  have q3 := of_decide_eq_false q2
  refine ⟨?_, fun p hp => ?_⟩
  · rw [List.map_append]
    refine lw_next e1 I.pw fun h0 => ?_
    rw [decide_eq_true (show 0 < it.1 by omega), Bool.true_and, e2, ← hl, ix_mid e1] at q1
    exact not_le2b.mp q1
  · rcases List.mem_append.mp hp with q | q
    · exact I.good p q
    · rw [List.mem_singleton.mp q]
      unfold gdC
      rw [h1, h2, decide_eq_true (by omega)]
      rfl
theorem LwI.fin {n b s : Int} {T : List (Tp Int)} {plan : List (Int × Int) × Int} (I : LwI n b plan.2 plan.1 (enumI plan.1)) : isPlanM n T b s plan = (decide (0 ≤ plan.2) && decide (((leftM n T plan).length : Int) ≤ s)) := by
  have h1 := I.pw
  rw [enumI_snd] at h1
  by_cases h0 : 0 ≤ plan.2
  · rw [decide_eq_true h0, Bool.true_and]
    refine isPlan_of h0 h1 fun p hp => ?_
    obtain ⟨i, hi, rfl⟩ := List.getElem_of_mem hp
    exact I.good ((i : Int), plan.1[i]) (mem_enumI.mpr ⟨by show (0 : Int) ≤ (i : Int); omega, by show plan.1[((i : Int)).toNat]? = _; rw [show ((i : Int)).toNat = i by omega]; exact List.getElem?_eq_getElem hi⟩)
  · rw [isPlan_no0 h0, decide_eq_false h0]
    rfl
end GL

namespace GL
open PySem PySem.Spec PyProof.Rows L2
theorem snoc_ind {α : Type} {P : List α → Prop} (h0 : P []) (hs : ∀ pre x, P pre → P (pre ++ [x])) (l : List α) : P l := by
  have : ∀ l : List α, P l.reverse := by
    intro l
    induction l with
    | nil => exact h0
    | cons x l ih => rw [List.reverse_cons]; exact hs _ _ ih
  have h := this l.reverse
  rw [List.reverse_reverse] at h
  exact h
theorem nodup_sub_le : ∀ {xs ys : List Int}, xs.Nodup → (∀ x ∈ xs, x ∈ ys) → xs.length ≤ ys.length
  | [], _, _, _ => Nat.zero_le _
  | x :: xs, ys, h, hs => by
    have hx := hs x List.mem_cons_self
    have hn := List.nodup_cons.mp h
    have ih := nodup_sub_le (ys := ys.erase x) hn.2 fun y hy => (List.mem_erase_of_ne (fun e : y = x => hn.1 (by rw [← e]; exact hy))).mpr (hs y (List.mem_cons_of_mem _ hy))
    rw [List.length_erase_of_mem hx] at ih
    have := List.length_pos_of_mem hx
    rw [List.length_cons]
    omega
/-! ### what is needed -/
abbrev NdS := List Int × Dct Bool
def ndS (st : NdS) (t : Tp Int × Tp Int) : NdS := (st.1 ++ ndNew st.1 st.2 t.1.l, wrD st.2 t.2.l)
def nd (y : Tch) : NdS := y.foldl ndS ([], Dct.emp)
def mN (y : Tch) : Int := ((nd y).1.length : Int)
theorem nd_snoc (y : Tch) (t : Tp Int × Tp Int) : nd (y ++ [t]) = ndS (nd y) t := by
  unfold nd
  rw [List.foldl_append]
  rfl
theorem nd_pre : ∀ (l : Tch) (st : NdS), ∃ r, (l.foldl ndS st).1 = st.1 ++ r
  | [], st => ⟨[], (List.append_nil _).symm⟩
  | t :: l, st => by
    obtain ⟨r, h⟩ := nd_pre l (ndS st t)
    exact ⟨ndNew st.1 st.2 t.1.l ++ r, by rw [List.foldl_cons, h]; show (st.1 ++ _) ++ r = _; rw [List.append_assoc]⟩
theorem nd_prefix (a b : Tch) : ∃ r, (nd (a ++ b)).1 = (nd a).1 ++ r := by
  unfold nd
  rw [List.foldl_append]
  exact nd_pre b _
theorem mN_snoc (y : Tch) (t : Tp Int × Tp Int) : mN y ≤ mN (y ++ [t]) := by
  obtain ⟨r, h⟩ := nd_prefix y [t]
  unfold mN
  rw [h, List.length_append]
  omega
theorem nd_ok {n : Int} (y : Tch) : TchOk n y → (nd y).1.Nodup ∧ ∀ x ∈ (nd y).1, 0 ≤ x ∧ x < n := by
  refine snoc_ind (P := fun y => TchOk n y → (nd y).1.Nodup ∧ ∀ x ∈ (nd y).1, 0 ≤ x ∧ x < n) ?_ ?_ y
  · intro _
    exact ⟨List.nodup_nil, fun x hx => nomatch hx⟩
  · intro pre t ih h
    obtain ⟨h1, h2⟩ := ih fun q hq => h q (List.mem_append_left _ hq)
    obtain ⟨hr, _⟩ := h t (by simp)
    rw [nd_snoc]
    refine ⟨?_, fun x hx => ?_⟩
    · show ((nd pre).1 ++ ndNew (nd pre).1 (nd pre).2 t.1.l).Nodup
      refine List.nodup_append.mpr ⟨h1, List.Pairwise.filter _ (hr.up.imp fun q => by omega), fun a ha b hb e => ?_⟩
      have := (List.mem_filter.mp hb).2
      rw [← e, decide_eq_true ha] at this
      simp at this
    · rcases List.mem_append.mp hx with q | q
      · exact h2 x q
      · exact hr.bd x (List.mem_filter.mp q).1
/-- what least_lost's loop keeps -/
def LLR (y : Tch) (r : LlS) : Prop := r.1 = (nd y).1 ∧ r.2.1 = (nd y).2 ∧ 0 ≤ r.2.2.1 ∧ (∀ j, j < y.length → mN (y.take (j + 1)) - j ≤ r.2.2.1) ∧
  ((r.2.2.1 = 0 ∧ r.2.2.2 = none) ∨ ∃ j : Nat, r.2.2.2 = some (j : Int) ∧ j < y.length ∧ 0 < r.2.2.1 ∧ mN (y.take (j + 1)) = r.2.2.1 + j)
theorem take_snoc_lt {δ : Type} {y : List δ} {t : δ} {j : Nat} (h : j < y.length) : (y ++ [t]).take (j + 1) = y.take (j + 1) := List.take_append_of_le_length (by omega)
theorem take_snoc_all {δ : Type} {y : List δ} {t : δ} : (y ++ [t]).take (y.length + 1) = y ++ [t] := List.take_of_length_le (by simp)
theorem ll_run (y : Tch) : LLR y ((enumI y).foldl llStep ([], Dct.emp, 0, none)) := by
  refine snoc_ind (P := fun y => LLR y ((enumI y).foldl llStep ([], Dct.emp, 0, none))) ?_ ?_ y
  · exact ⟨rfl, rfl, Int.le_refl _, fun j hj => absurd hj (Nat.not_lt_zero _), .inl ⟨rfl, rfl⟩⟩
  · intro pre t ih
    rw [enumI_snoc, List.foldl_append]
    generalize (enumI pre).foldl llStep ([], Dct.emp, 0, none) = r at ih
    obtain ⟨needed, written, lost, shows⟩ := r
    obtain ⟨h1, h2, h3, h4, h5⟩ := ih
    dsimp only at h1 h2 h3 h4 h5
    have hm : mN (pre ++ [t]) = ((needed ++ ndNew needed written t.1.l).length : Int) := by
      unfold mN
      rw [nd_snoc, h1, h2]
      rfl
    show LLR (pre ++ [t]) (llStep (needed, written, lost, shows) ((pre.length : Int), t))
    unfold llStep
    dsimp only
    rw [← hm]
    refine ⟨by rw [nd_snoc, h1, h2]; rfl, by rw [nd_snoc, h2]; rfl, ?_, fun j hj => ?_, ?_⟩
    · dsimp only
      split
      · rename_i h; have := of_decide_eq_true h; omega
      · exact h3
    · dsimp only
      rw [List.length_append, List.length_singleton] at hj
      by_cases e : j = pre.length
      · subst e
        rw [take_snoc_all]
        split
        · exact Int.le_refl _
        · rename_i h; simp at h; omega
      · rw [take_snoc_lt (by omega)]
        have := h4 j (by omega)
        split
        · rename_i h; have := of_decide_eq_true h; omega
        · exact this
    · dsimp only
      by_cases h : lost < mN (pre ++ [t]) - (pre.length : Int)
      · rw [if_pos (decide_eq_true h), if_pos (decide_eq_true h)]
        exact .inr ⟨pre.length, rfl, by simp, by omega, by rw [take_snoc_all]; omega⟩
      · rw [if_neg (by simpa using h), if_neg (by simpa using h)]
        rcases h5 with h5 | ⟨j, a1, a2, a3, a4⟩
        · exact .inl h5
        · exact .inr ⟨j, a1, by simp; omega, a3, by rw [take_snoc_lt a2]; exact a4⟩
/-- the law's own count -/
theorem wa_run (y : Tch) : (y.foldl waStep ([], [])).2 = (nd y).1 ∧ ∀ x, x ∈ (y.foldl waStep ([], [])).1 ↔ ((nd y).2.get? x).isSome = true := by
  refine snoc_ind (P := fun y => (y.foldl waStep ([], [])).2 = (nd y).1 ∧ ∀ x, x ∈ (y.foldl waStep ([], [])).1 ↔ ((nd y).2.get? x).isSome = true) ?_ ?_ y
  · exact ⟨rfl, fun x => ⟨fun h => (nomatch h), fun h => by cases h⟩⟩
  · intro pre t ⟨h1, h2⟩
    rw [List.foldl_append, nd_snoc]
    generalize pre.foldl waStep ([], []) = r at h1 h2
    obtain ⟨written, wanted⟩ := r
    dsimp only at h1 h2
    show (waStep (written, wanted) t).2 = _ ∧ ∀ x, x ∈ (waStep (written, wanted) t).1 ↔ _
    unfold waStep ndS ndNew
    dsimp only
    refine ⟨?_, fun x => ?_⟩
    · rw [h1]
      congr 1
      apply List.filter_congr
      intro x _
      congr 1
      by_cases e : x ∈ written
      · rw [decide_eq_true e, (h2 x).mp e]
      · rw [decide_eq_false e]
        cases q : ((nd pre).2.get? x).isSome with
        | false => rfl
        | true => exact absurd ((h2 x).mpr q) e
    · have hw : ∀ (ws : List Int) (d : Dct Bool), ((wrD d ws).get? x).isSome = true ↔ x ∈ ws ∨ (d.get? x).isSome = true := by
        intro ws
        induction ws with
        | nil => intro d; simp [wrD]
        | cons w ws ih =>
          intro d
          show ((wrD (d.put w true) ws).get? x).isSome = true ↔ _
          rw [ih, Dct.get?_put]
          by_cases e : x = w
          · simp [e]
          · simp [e]
      rw [hw, List.mem_append, h2 x]
      exact Or.comm
theorem want_m (y : Tch) : wantM y = mN y := by
  unfold wantM mN
  rw [(wa_run y).1]
/-! ### any play -/
def CL (C : List Int) (came : Dct Int) : Prop := C.Nodup ∧ ∀ x, x ∈ C ↔ (came.get? x).isSome = true
theorem CL.put {C : List Int} {came : Dct Int} {x now : Int} (h : CL C came) (hx : (came.get? x).isSome = false) : CL (C ++ [x]) (came.put x now) := by
  refine ⟨List.nodup_append.mpr ⟨h.1, by simp, fun a ha b hb e => ?_⟩, fun y => ?_⟩
  · rw [List.mem_singleton.mp hb] at e
    have := (h.2 a).mp ha
    rw [e, hx] at this
    cases this
  · rw [List.mem_append, List.mem_singleton, h.2 y, Dct.get?_put]
    by_cases e : y = x
    · rw [if_pos e]
      simp [e]
    · rw [if_neg e]
      simp [e]
theorem goM_inv {reads order : List Int} {written : Dct Bool} {asks : Bool} {I : Dct Int × Int → Prop} (ho : ∀ x ∈ reads, x ∈ order) (hb : ∀ x ∈ order, 0 ≤ x ∧ x < 1000)
    (hs : ∀ s, CameOk s.1 s.2 → laM reads written s.1 s.2 ≠ [] → I s → I (s.1.put (goX reads order written asks s) s.2, s.2 + 1)) : ∀ (f : Nat) (s : Dct Int × Int), CameOk s.1 s.2 → I s → I (goM reads order written asks f s)
  | 0, s, _, h => h
  | f + 1, s, hc, h => by
    rw [goM]
    split
    · exact h
    · rename_i hl
      exact goM_inv ho hb hs f _ (hc.put (hb _ (List.mem_filter.mp (goX_mem hc ho hl)).1)) (hs s hc hl h)
theorem goM_stop {reads order : List Int} {written : Dct Bool} {asks : Bool} (ho : ∀ x ∈ reads, x ∈ order) (hb : ∀ x ∈ order, 0 ≤ x ∧ x < 1000) : ∀ (f : Nat) (s : Dct Int × Int), CameOk s.1 s.2 → (leM order written s.1).length < f →
    laM reads written (goM reads order written asks f s).1 (goM reads order written asks f s).2 = []
  | 0, s, _, h => absurd h (Nat.not_lt_zero _)
  | f + 1, s, hc, h => by
    rw [goM]
    split
    · assumption
    · rename_i hl
      have hm := goX_mem (asks := asks) hc ho hl
      have := le_less (now := s.2) hm
      rw [show ((s.1, s.2) : Dct Int × Int) = s from rfl] at this
      exact goM_stop ho hb f _ (hc.put (hb _ (List.mem_filter.mp hm).1)) (by dsimp only; omega)
def take1 (l : List Int) (now : Int) (d : Dct Int) : Dct Int := match l.head? with | none => d | some x => d.put x now
theorem plStep_eq (order : List Int) (asks : Bool) (st : PlS) (t : Tp Int × Tp Int) : plStep order asks st t =
    (take1 (leM order (wrD st.2.1 t.2.l) (goM t.1.l order st.2.1 asks (order.length + 1) (st.1, st.2.2.2)).1) (goM t.1.l order st.2.1 asks (order.length + 1) (st.1, st.2.2.2)).2 (goM t.1.l order st.2.1 asks (order.length + 1) (st.1, st.2.2.2)).1,
     wrD st.2.1 t.2.l, st.2.2.1 ++ [(goM t.1.l order st.2.1 asks (order.length + 1) (st.1, st.2.2.2)).2], (goM t.1.l order st.2.1 asks (order.length + 1) (st.1, st.2.2.2)).2 + 1) := by
  unfold plStep take1
  cases leM order (wrD st.2.1 t.2.l) (goM t.1.l order st.2.1 asks (order.length + 1) (st.1, st.2.2.2)).1 with
  | nil => rfl
  | cons x xs => rfl
structure PLB (y : Tch) (st : PlS) (C : List Int) : Prop where
  wr : st.2.1 = (nd y).2
  cl : CL C st.1
  cn : (C.length : Int) ≤ st.2.2.2
  nds : ∀ p ∈ (nd y).1, p ∈ C
  tk : st.2.2.1.length = y.length
  lo : ∀ k, k < y.length → mN (y.take (k + 1)) ≤ st.2.2.1.getD k 0
  up : ∀ k, k + 1 < y.length → st.2.2.1.getD k 0 + 1 ≤ st.2.2.1.getD (k + 1) 0
  ds : ∀ k, k < y.length → st.2.2.1.getD k 0 + ((y.length : Int) - k) ≤ st.2.2.2
  ls : 0 < y.length → st.2.2.1.getD (y.length - 1) 0 + 1 = st.2.2.2
  z : y.length = 0 → st.2.2.2 = 0
  ge : (y.length : Int) ≤ st.2.2.2
theorem getD_snoc_lt {xs : List Int} {v : Int} {k : Nat} (h : k < xs.length) : (xs ++ [v]).getD k 0 = xs.getD k 0 := by
  rw [List.getD_eq_getElem?_getD, List.getD_eq_getElem?_getD, List.getElem?_append_left h]
theorem getD_snoc_eq {xs : List Int} {v : Int} {k : Nat} (h : k = xs.length) : (xs ++ [v]).getD k 0 = v := by
  rw [List.getD_eq_getElem?_getD, List.getElem?_append_right (by omega), h, Nat.sub_self]
  rfl
theorem lack_none {reads : List Int} {written : Dct Bool} {came : Dct Int} {now : Int} (h : laM reads written came now = []) {x : Int} (hx : x ∈ reads) : (written.get? x).isSome = true ∨ (came.get? x).isSome = true := by
  have h1 : ¬ x ∈ laM reads written came now := by rw [h]; exact fun q => nomatch q
  unfold laM at h1
  rw [List.mem_filter] at h1
  cases e : (written.get? x).isSome with
  | true => exact .inl rfl
  | false =>
    right
    cases e2 : came.get? x with
    | some c => rfl
    | none =>
      refine absurd ⟨hx, ?_⟩ h1
      rw [e, e2]
      simp
theorem plb {n : Int} {order : List Int} {asks : Bool} (hn : n ≤ 1000) (hc : ∀ x, 0 ≤ x → x < n → x ∈ order) (hb : ∀ x ∈ order, 0 ≤ x ∧ x < 1000) (y : Tch) : TchOk n y → ∃ C, PLB y (y.foldl (plStep order asks) (Dct.emp, Dct.emp, [], 0)) C := by
  refine snoc_ind (P := fun y => TchOk n y → ∃ C, PLB y (y.foldl (plStep order asks) (Dct.emp, Dct.emp, [], 0)) C) ?_ ?_ y
  · intro _
    exact ⟨[], rfl, ⟨List.nodup_nil, fun x => ⟨fun h => (nomatch h), fun h => by cases h⟩⟩, Int.le_refl _, fun p hp => (nomatch hp), rfl, fun k hk => absurd hk (Nat.not_lt_zero _), fun k hk => absurd hk (Nat.not_lt_zero _), fun k hk => absurd hk (Nat.not_lt_zero _), fun h => absurd h (Nat.not_lt_zero _), fun _ => rfl, Int.le_refl _⟩
  · intro pre t ih h
    have hpre : TchOk n pre := fun q hq => h q (List.mem_append_left _ hq)
    obtain ⟨C, p⟩ := ih hpre
    obtain ⟨pok, _⟩ := pl_ok (asks := asks) hn hc hb pre (Dct.emp, Dct.emp, [], 0) hpre ⟨⟨fun x c e => (nomatch e), Dct.Ok.emp⟩, Dct.Ok.emp⟩
    rw [List.foldl_append]
    generalize pre.foldl (plStep order asks) (Dct.emp, Dct.emp, [], 0) = st at p pok
    obtain ⟨came, written, ticks, now⟩ := st
    obtain ⟨hco, hwo⟩ := pok
    obtain ⟨p1, p2, p3, p4, p5, p6, p7, p8, p9, p10, p11⟩ := p
    dsimp only at p1 p2 p3 p4 p5 p6 p7 p8 p9 p10 p11 hco hwo
    obtain ⟨hr, hw⟩ := h t (by simp)
    have hor : ∀ x ∈ t.1.l, x ∈ order := fun x hx => hc x (hr.bd x hx).1 (hr.bd x hx).2
    show ∃ C, PLB (pre ++ [t]) (plStep order asks (came, written, ticks, now) t) C
    rw [plStep_eq]
    dsimp only
    have hgi := goM_inv (written := written) (asks := asks) (I := fun s => (∃ C', CL C' s.1 ∧ (C'.length : Int) ≤ s.2 ∧ ∀ p ∈ C, p ∈ C')) hor hb (fun s hs hl ⟨C', c1, c2, c3⟩ => by
      have hm := goX_mem (asks := asks) hs hor hl
      have hx := (List.mem_filter.mp hm).2
      refine ⟨C' ++ [goX t.1.l order written asks s], c1.put (by simp at hx; simpa using hx.2), by rw [List.length_append, List.length_singleton]; dsimp only; omega, fun p hp => List.mem_append_left _ (c3 p hp)⟩) (order.length + 1) (came, now) hco ⟨C, p2, p3, fun p hp => hp⟩
    have hst := goM_stop (written := written) (asks := asks) hor hb (order.length + 1) (came, now) hco (Nat.lt_succ_of_le (List.length_filter_le _ _))
    have hge := goM_ge (reads := t.1.l) (order := order) (written := written) (asks := asks) (order.length + 1) (came, now)
    generalize goM t.1.l order written asks (order.length + 1) (came, now) = g at hgi hst hge
    obtain ⟨came2, now2⟩ := g
    obtain ⟨C', c1, c2, c3⟩ := hgi
    dsimp only at c1 c2 c3 hst hge ⊢
    have hnew : ∀ p ∈ (nd (pre ++ [t])).1, p ∈ C' := fun p hp => by
      rw [nd_snoc] at hp
      rcases List.mem_append.mp hp with q | q
      · exact c3 p (p4 p q)
      · obtain ⟨q1, q2⟩ := List.mem_filter.mp q
        rcases lack_none hst q1 with e | e
        · rw [← p1] at q2
          rw [e] at q2
          simp at q2
        · exact (c1.2 p).mpr e
    have hm : mN (pre ++ [t]) ≤ now2 := by
      have := nodup_sub_le (nd_ok (pre ++ [t]) h).1 hnew
      unfold mN
      omega
    have hC2 : ∃ C2, CL C2 (take1 (leM order (wrD written t.2.l) came2) now2 came2) ∧ (C2.length : Int) ≤ now2 + 1 ∧ ∀ p ∈ C', p ∈ C2 := by
      unfold take1
      cases e : (leM order (wrD written t.2.l) came2) with
      | nil => exact ⟨C', c1, by omega, fun p hp => hp⟩
      | cons x xs =>
        have hx : x ∈ leM order (wrD written t.2.l) came2 := by rw [e]; exact List.mem_cons_self
        have hx2 := (List.mem_filter.mp hx).2
        refine ⟨C' ++ [x], c1.put (by simp at hx2; simpa using hx2.2), by rw [List.length_append, List.length_singleton]; omega, fun p hp => List.mem_append_left _ hp⟩
    obtain ⟨C2, d1, d2, d3⟩ := hC2
    have hlen : (pre ++ [t]).length = pre.length + 1 := by simp
    refine ⟨C2, by rw [nd_snoc, p1]; rfl, d1, d2, fun p hp => d3 p (hnew p hp), by dsimp only; rw [List.length_append, p5, hlen]; rfl, fun k hk => ?_, fun k hk => ?_, fun k hk => ?_, fun _ => ?_, fun e => by omega, by rw [hlen]; dsimp only; omega⟩
    · dsimp only
      rw [hlen] at hk
      by_cases e : k = pre.length
      · rw [getD_snoc_eq (by omega), e, take_snoc_all]
        exact hm
      · rw [getD_snoc_lt (by omega), take_snoc_lt (by omega)]
        exact p6 k (by omega)
    · dsimp only
      rw [hlen] at hk
      by_cases e : k + 1 = pre.length
      · rw [getD_snoc_eq (xs := ticks) (k := k + 1) (by omega), getD_snoc_lt (by omega)]
        have := p9 (by omega)
        rw [show pre.length - 1 = k by omega] at this
        omega
      · rw [getD_snoc_lt (k := k + 1) (by omega), getD_snoc_lt (by omega)]
        exact p7 k (by omega)
    · dsimp only
      rw [hlen] at hk ⊢
      by_cases e : k = pre.length
      · rw [getD_snoc_eq (by omega)]
        omega
      · rw [getD_snoc_lt (by omega)]
        have := p8 k (by omega)
        omega
    · dsimp only
      rw [getD_snoc_eq (by omega)]
theorem lastI_getD {xs : List Int} (h : 0 < xs.length) : lastI xs = xs.getD (xs.length - 1) 0 := by
  unfold lastI ix
  rw [show ((xs.length : Int) - 1).toNat = xs.length - 1 by omega]
  rfl
/-- what is lost: the clock behind the last deed, less the deeds -/
theorem play_lost {y : Tch} {order : List Int} {asks : Bool} {C : List Int} (p : PLB y (y.foldl (plStep order asks) (Dct.emp, Dct.emp, [], 0)) C) : (playG y order asks).2 = (y.foldl (plStep order asks) (Dct.emp, Dct.emp, [], 0)).2.2.2 - y.length ∧ (playG y order asks).1 = (y.foldl (plStep order asks) (Dct.emp, Dct.emp, [], 0)).2.2.1 := by
  unfold playG
  generalize y.foldl (plStep order asks) (Dct.emp, Dct.emp, [], 0) = st at p
  obtain ⟨came, written, ticks, now⟩ := st
  refine ⟨?_, rfl⟩
  have h1 := p.tk
  have h2 := p.ls
  have h3 := p.z
  have h4 := p.ge
  dsimp only at h1 h2 h3 h4 ⊢
  cases ticks with
  | nil =>
    have : y.length = 0 := by rw [← h1]; rfl
    rw [h3 this, this]
    rfl
  | cons x xs =>
    have e : cutL (x :: xs) none (some 1) = [x] := rfl
    rw [e]
    show max (0 : Int) (lastI (x :: xs) - ((x :: xs).length : Int) + 1) = _
    rw [lastI_getD (by simp), h1]
    have := h2 (by rw [← h1]; simp)
    omega
end GL

namespace GL
open PySem PySem.Spec PyProof.Rows L2
variable {C : Addr}
/-! ### a good plan's copies -/
section
variable {n b s stop : Int} {T : List (Tp Int)} {cs : List (Int × Int)}
theorem lastW_ge (T : List (Tp Int)) (stop x : Int) : -1 ≤ lastW T stop x := by
  have : ∀ k : Nat, -1 ≤ (lastN T k x).getD (-1) := fun k => by
    induction k with
    | zero => exact Int.le_refl _
    | succ k ih =>
      rw [lastN]
      split
      · show (-1 : Int) ≤ (k : Int); omega
      · exact ih
  exact this _
theorem GoodC.bd (h : GoodC n T b s stop cs) {c : Int × Int} (hc : c ∈ cs) : 0 ≤ c.1 ∧ c.1 < stop := by
  have h1 := h.last c hc
  have h2 := lastW_ge T stop c.2
  omega
theorem GoodC.left (h : GoodC n T b s stop cs) : leftM n T (cs, stop) = (rng 0 n).filter fun x => !decide (x ∈ cs.map (·.2)) := by
  rw [left_eq]
  refine List.filter_congr fun x _ => ?_
  by_cases e : x ∈ cs.map (·.2)
  · rw [decide_eq_true e]
    obtain ⟨c, hc, rfl⟩ := List.mem_map.mp e
    have hb := h.bd hc
    refine lf_iff.mpr ⟨c.1, ?_, (h.last c hc).1⟩
    unfold tks inT
    refine List.mem_map.mpr ⟨c, List.mem_filter.mpr ⟨hc, ?_⟩, rfl⟩
    simp [hb]
  · rw [decide_eq_false e]
    show lfT T cs stop x = true
    have : tks cs stop x = [] := by
      unfold tks
      rw [List.map_eq_nil_iff, List.filter_eq_nil_iff]
      intro c hc q
      have := (Bool.and_eq_true_iff.mp q).1
      exact e (List.mem_map.mpr ⟨c, hc, of_decide_eq_true this⟩)
    unfold lfT
    rw [this]
    rfl
theorem GoodC.perm (h : GoodC n T b s stop cs) : (rng 0 n).Perm (cs.map (·.2) ++ leftM n T (cs, stop)) := by
  rw [h.left]
  refine (List.perm_ext_iff_of_nodup (rng_nodup 0 n) ?_).mpr fun x => ?_
  · refine List.nodup_append.mpr ⟨h.nd, (rng_nodup 0 n).filter _, fun a ha c hc e => ?_⟩
    have := (List.mem_filter.mp hc).2
    rw [← e, decide_eq_true ha] at this
    cases this
  · rw [List.mem_append, List.mem_filter]
    constructor
    · intro hx
      by_cases e : x ∈ cs.map (·.2)
      · exact .inl e
      · exact .inr ⟨hx, by rw [decide_eq_false e]; rfl⟩
    · rintro (q | q)
      · obtain ⟨c, hc, rfl⟩ := List.mem_map.mp q
        have := h.sh c hc
        exact mem_rng.mpr this
      · exact q.1
theorem GoodC.lens (h : GoodC n T b s stop cs) (hn : 0 ≤ n) (hs : 0 ≤ s) : (cs.length : Int) + ((leftM n T (cs, stop)).length : Int) = n ∧ ((leftM n T (cs, stop)).length : Int) ≤ s := by
  have h1 := h.perm.length_eq
  rw [len_rng, List.length_append, List.length_map] at h1
  have h2 := h.many
  omega
theorem rng_le (n : Int) : (rng 0 n).Pairwise (· ≤ ·) := (rng_sorted 0 n).imp fun h => Int.le_of_lt h
theorem GoodC.sorted (h : GoodC n T b s stop cs) : GL.srt (cs.map (·.2) ++ leftM n T (cs, stop)) = rng 0 n := (srt_eq h.perm (rng_le n)).symm
theorem GoodC.isPlan (h : GoodC n T b s stop cs) (h0 : 0 ≤ stop) (hn : 0 ≤ n) (hs : 0 ≤ s) : isPlanM n T b s (cs, stop) = true := by
  rw [isPlan_of h0 h.srt fun p hp => ?_]
  · exact decide_eq_true (h.lens hn hs).2
  · have h1 := h.bd hp
    have h2 := h.sh p hp
    have h3 := h.cap p.1
    unfold gdC inT cntA
    dsimp only
    rw [decide_eq_true h1.1, decide_eq_true h1.2, decide_eq_true h2.1, decide_eq_true h2.2, decide_eq_true h3]
    rfl
end
/-! ### drawn copies leave more than is barred -/
structure DrOk (b stop : Int) (cps : List (Int × Int)) : Prop where
  bd : ∀ c ∈ cps, 0 ≤ c.1 ∧ c.1 < stop
  cnt : ∀ u : Int, -1 ≤ u → u < stop → ((cps.filter fun c => decide (u < c.1)).length : Int) ≤ b * (stop - 1 - u)
theorem drawn_left {n b stop t : Int} {T : List (Tp Int)} {cps : List (Int × Int)} (h : DrOk b stop cps) (ht : -1 ≤ t) (ht1 : t < stop) : lackM (lastsM n T stop) b stop t ≤ ((leftM n T (cps, stop)).length : Int) := by
  have hA : ((lastsM n T stop).filter fun x => decide (t ≤ x)).length = ((rng 0 n).filter fun x => decide (t ≤ lastW T stop x)).length := by
    unfold lastsM
    rw [List.filter_map, List.length_map]
    rfl
  have hsplit : ∀ l : List Int, (l.filter fun x => decide (t ≤ lastW T stop x)).length ≤ (l.filter (lfT T cps stop)).length + (l.filter fun x => decide (t ≤ lastW T stop x) && !lfT T cps stop x).length := fun l => by
    induction l with
    | nil => simp
    | cons x l ih =>
      rw [List.filter_cons, List.filter_cons, List.filter_cons]
      cases lfT T cps stop x <;> cases decide (t ≤ lastW T stop x) <;> simp <;> omega
  have hB : ((rng 0 n).filter fun x => decide (t ≤ lastW T stop x) && !lfT T cps stop x).length ≤ ((cps.filter fun c => decide (t < c.1)).map (·.2)).length := by
    refine nodup_sub_le ((rng_nodup 0 n).filter _) fun x hx => ?_
    obtain ⟨_, q⟩ := List.mem_filter.mp hx
    obtain ⟨q1, q2⟩ := Bool.and_eq_true_iff.mp q
    have q1 := of_decide_eq_true q1
    have q2 : lfT T cps stop x = false := by simpa using q2
    obtain ⟨y, hy, hl⟩ := lf_iff.mp q2
    unfold tks at hy
    obtain ⟨c, hc, rfl⟩ := List.mem_map.mp hy
    obtain ⟨hc1, hc2⟩ := List.mem_filter.mp hc
    have e : c.2 = x := of_decide_eq_true (Bool.and_eq_true_iff.mp hc2).1
    exact List.mem_map.mpr ⟨c, List.mem_filter.mpr ⟨hc1, by simp; omega⟩, e⟩
  rw [List.length_map] at hB
  have h1 := hsplit (rng 0 n)
  have h2 := h.cnt t ht ht1
  rw [left_eq]
  unfold lackM
  rw [hA, show stop - t - 1 = stop - 1 - t by omega]
  dsimp only
  omega
structure DrI (b t : Int) (cps : List (Int × Int)) : Prop where
  ok : DrOk b t cps
  len : (cps.length : Int) ≤ 12 * t
theorem DrI.start (b : Int) : DrI b 0 [] := by
  refine ⟨⟨(fun c h => nomatch h), fun u h1 h2 => ?_⟩, by simp⟩
  have e : u = -1 := by omega
  rw [e]
  simp
theorem DrI.next {b t : Int} {cps ex : List (Int × Int)} (h : DrI b t cps) (ht : 0 ≤ t) (he : ∀ c ∈ ex, c.1 = t) (hl : (ex.length : Int) ≤ b) (hl2 : ex.length ≤ 12) : DrI b (t + 1) (cps ++ ex) := by
  obtain ⟨⟨h1, h2⟩, h3⟩ := h
  refine ⟨⟨fun c hc => ?_, fun u hu hu1 => ?_⟩, by rw [List.length_append]; omega⟩
  · rcases List.mem_append.mp hc with q | q
    · have := h1 c q; omega
    · have := he c q; omega
  · rw [List.filter_append, List.length_append]
    have e1 : (ex.filter fun c => decide (u < c.1)).length ≤ ex.length := List.length_filter_le _ _
    by_cases c : u < t
    · have h4 := h2 u hu c
      have e2 : b * (t + 1 - 1 - u) = b * (t - 1 - u) + b := by rw [show t + 1 - 1 - u = (t - 1 - u) + 1 by omega, Int.mul_add, Int.mul_one]
      rw [e2]
      omega
    · have eu : u = t := by omega
      have e3 : (cps.filter fun c => decide (u < c.1)) = [] := by
        rw [List.filter_eq_nil_iff]
        intro c hc
        have := h1 c hc
        simp
        omega
      have e4 : (ex.filter fun c => decide (u < c.1)) = [] := by
        rw [List.filter_eq_nil_iff]
        intro c hc
        have := he c hc
        simp
        omega
      rw [e3, e4, eu, show t + 1 - 1 - t = 0 by omega, Int.mul_zero]
      simp
theorem DrOk.perm {b stop : Int} {l l' : List (Int × Int)} (h : DrOk b stop l) (p : l'.Perm l) : DrOk b stop l' :=
  ⟨fun c hc => h.bd c (p.mem_iff.mp hc), fun u h1 h2 => by rw [filter_perm_len p]; exact h.cnt u h1 h2⟩
end GL
namespace GL
open PySem PySem.Spec PyProof.Rows L2
structure DrJ (cb : List (Int × Int)) (now n : Int) (k : Nat) (cps : List (Int × Int)) (left : List Int) : Prop where
  ex : ∃ ex, cps = cb ++ ex ∧ (∀ c ∈ ex, c.1 = now) ∧ ex.length = k
  ll : (left.length : Int) = n - k
theorem DrJ.start {cb : List (Int × Int)} {now n : Int} {left : List Int} (hn : 0 ≤ n) (h : left = rng 0 n) : DrJ cb now n 0 cb left := ⟨⟨[], by simp, (fun c h => nomatch h), rfl⟩, by rw [h, len_rng]; omega⟩
theorem DrJ.step {cb cps : List (Int × Int)} {now n y : Int} {k : Nat} {left left' : List Int} (h : DrJ cb now n k cps left) (hl : left'.length + 1 = left.length) : DrJ cb now n (k + 1) (cps ++ [(now, y)]) left' := by
  obtain ⟨⟨ex, h1, h2, h3⟩, h4⟩ := h
  refine ⟨⟨ex ++ [(now, y)], by rw [h1, List.append_assoc], fun c hc => ?_, by rw [List.length_append, h3]; rfl⟩, by omega⟩
  rcases List.mem_append.mp hc with q | q
  · exact h2 c q
  · rw [List.mem_singleton.mp q]
theorem DrJ.clen {cb cps : List (Int × Int)} {now n : Int} {k : Nat} {left : List Int} (h : DrJ cb now n k cps left) : cps.length = cb.length + k := by
  obtain ⟨⟨ex, h1, h2, h3⟩, h4⟩ := h
  rw [h1, List.length_append, h3]
theorem DrJ.fin {b now n : Int} {k : Nat} {cb cps : List (Int × Int)} {left : List Int} (h : DrJ cb now n k cps left) (hI : DrI b now cb) (h0 : 0 ≤ now) (hk : (k : Int) ≤ b) (hk2 : k ≤ 12) : DrI b (now + 1) cps := by
  obtain ⟨⟨ex, h1, h2, h3⟩, h4⟩ := h
  rw [h1]
  exact hI.next h0 h2 (by omega) (by omega)
/-! ### what earliest tells -/
theorem early_cases {n b s many : Int} {T : List (Tp Int)} {found : ScanT} (hn : 0 ≤ n) (hn1 : n ≤ 60) (hb : 0 < b) (hs : 0 ≤ s) (hl : (T.length : Int) = many) (hf : found = scanM (Str.ofString "barred") n T b s (T.length + 1)) :
    (decide (sm0 found = Str.ofString "stop") = true → ∃ m0 cs, 0 ≤ m0 ∧ m0 ≤ many ∧ found = Sum.inl ⟨Str.ofString "stop", m0, cs⟩ ∧ GoodC n T b s m0 cs) ∧
    (decide (sm0 found = Str.ofString "stop") = false → ∀ stop, 0 ≤ stop → stop ≤ many → ∃ t, -1 ≤ t ∧ t < stop ∧ s < lackM (lastsM n T stop) b stop t) := by
  rcases scan_cases (w := Str.ofString "barred") (m := (T.length : Int) + 1) (T := T) hn hn1 hb hs rfl with ⟨m0, cs, a1, a2, a3, a4, a5, a6, a7⟩ | ⟨ts, c1, c2, c3, c4⟩
  · rw [← hf] at a6
    refine ⟨fun _ => ⟨m0, cs, a4, by omega, a6, a7⟩, fun h => ?_⟩
    rw [a6] at h
    exact absurd rfl (of_decide_eq_false h)
  · rw [← hf] at c2
    refine ⟨fun h => ?_, fun _ stop h0 h1 => ?_⟩
    · rw [c2] at h
      exact absurd (of_decide_eq_true h) (by show Str.ofString "barred" ≠ Str.ofString "stop"; decide)
    · have hlt : stop.toNat < ts.length := by omega
      have hm : ((stop.toNat : Int), ts[stop.toNat]) ∈ enumI ts := mem_enumI.mpr ⟨by dsimp only; omega, by dsimp only; rw [Int.toNat_natCast]; exact List.getElem?_eq_getElem hlt⟩
      have := c4 _ hm
      dsimp only at this
      rw [show ((stop.toNat : Nat) : Int) = stop by omega] at this
      exact ⟨_, this.1, this.2.1, this.2.2⟩
end GL

/-! Matchings of sheets with places behind their last writings, by sheets that give way. -/
namespace GL
open PySem PySem.Spec PyProof.Rows L2
abbrev GwS := Dct Int × Dct Bool
def gwB (rec : Int → GwS → Bool × GwS) (sheet : Int) (st : GwS) (place : Int) : Fl GwS (Bool × GwS) :=
  if (st.2.get? place).isSome = true then .nx st
  else match st.1.get? place with
    | none => .rt (true, (st.1.put place sheet, st.2.put place true))
    | some z => match rec z (st.1, st.2.put place true) with
      | (true, s') => .rt (true, (s'.1.put place sheet, s'.2))
      | (false, s') => .nx s'
def gwAux (free : List (List Int)) : Nat → Int → GwS → Bool × GwS
  | 0, _, st => (false, st)
  | n + 1, sheet, st => forL (gwB (gwAux free n) sheet) (fun s => (false, s)) (ix free sheet) st
@[irreducible] def gw (free : List (List Int)) (n : Nat) : Int → GwS → Bool × GwS := gwAux free n
theorem gw_succ (free : List (List Int)) (n : Nat) (sheet : Int) (st : GwS) : gw free (n + 1) sheet st = forL (gwB (gw free n) sheet) (fun s => (false, s)) (ix free sheet) st := by
  unfold gw
  rfl
theorem gwB_asked {rec : Int → GwS → Bool × GwS} {sheet place : Int} {st : GwS} (h : (st.2.get? place).isSome = true) : gwB rec sheet st place = .nx st := by
  unfold gwB
  rw [if_pos h]
theorem gwB_free {rec : Int → GwS → Bool × GwS} {sheet place : Int} {st : GwS} (h : (st.2.get? place).isSome = false) (h2 : st.1.get? place = none) : gwB rec sheet st place = .rt (true, (st.1.put place sheet, st.2.put place true)) := by
  unfold gwB
  rw [if_neg (by rw [h]; decide), h2]
theorem gwB_yes {rec : Int → GwS → Bool × GwS} {sheet place z : Int} {st s' : GwS} (h : (st.2.get? place).isSome = false) (h2 : st.1.get? place = some z) (h3 : rec z (st.1, st.2.put place true) = (true, s')) : gwB rec sheet st place = .rt (true, (s'.1.put place sheet, s'.2)) := by
  unfold gwB
  rw [if_neg (by rw [h]; decide), h2]
  dsimp only
  rw [h3]
theorem gwB_no {rec : Int → GwS → Bool × GwS} {sheet place z : Int} {st s' : GwS} (h : (st.2.get? place).isSome = false) (h2 : st.1.get? place = some z) (h3 : rec z (st.1, st.2.put place true) = (false, s')) : gwB rec sheet st place = .nx s' := by
  unfold gwB
  rw [if_neg (by rw [h]; decide), h2]
  dsimp only
  rw [h3]
/-! ### dicts -/
theorem Dct.put_new {α : Type} {d : Dct α} {k : Int} {x : α} (h : d.get? k = none) : (d.put k x).l = d.l ++ [(k, x)] := by
  unfold Dct.put
  have : (d.l.any fun kv => decide (kv.1 = k)) = false := by
    rw [Dct.any_find]
    unfold Dct.get? at h
    rw [h]; rfl
  simp only [this, Bool.false_eq_true, if_false]
theorem map_id_no {α : Type} {k : Int} {x : α} : ∀ {l : List (Int × α)}, k ∉ l.map (·.1) → (l.map fun kv => if kv.1 = k then (kv.1, x) else kv) = l
  | [], _ => rfl
  | p :: l, h => by
    rw [List.map_cons, List.mem_cons, not_or] at h
    rw [List.map_cons, map_id_no h.2, if_neg (fun e => h.1 e.symm)]
theorem vals_old {k x z : Int} : ∀ {l : List (Int × Int)}, (l.map (·.1)).Nodup → (l.find? fun kv => decide (kv.1 = k)).map (·.2) = some z → (z :: (l.map fun kv => if kv.1 = k then (kv.1, x) else kv).map (·.2)).Perm (x :: l.map (·.2))
  | [], _, h => by simp at h
  | p :: l, hn, h => by
    rw [List.map_cons, List.nodup_cons] at hn
    rw [List.find?_cons] at h
    by_cases e : p.1 = k
    · rw [decide_eq_true e] at h
      simp only [Option.map_some, Option.some.injEq] at h
      rw [List.map_cons, if_pos e, map_id_no (by rw [← e]; exact hn.1), List.map_cons, List.map_cons, h]
      exact List.Perm.swap _ _ _
    · rw [decide_eq_false e] at h
      have ih := vals_old (x := x) hn.2 h
      rw [List.map_cons, if_neg e, List.map_cons, List.map_cons]
      exact (List.Perm.swap _ _ _).trans ((ih.cons p.2).trans (List.Perm.swap _ _ _))
theorem Dct.put_old {d : Dct Int} {k x z : Int} (hn : (d.l.map (·.1)).Nodup) (h : d.get? k = some z) : (z :: (d.put k x).l.map (·.2)).Perm (x :: d.l.map (·.2)) := by
  unfold Dct.put
  have : (d.l.any fun kv => decide (kv.1 = k)) = true := by
    rw [Dct.any_find]
    unfold Dct.get? at h
    rw [h]; rfl
  simp only [this, if_true]
  exact vals_old hn h
theorem Dct.get_mem {d : Dct Int} {p s : Int} (h : d.get? p = some s) : (p, s) ∈ d.l := by
  unfold Dct.get? at h
  obtain ⟨kv, h1, h2⟩ := Option.map_eq_some_iff.mp h
  have := List.find?_some h1
  have e : kv.1 = p := of_decide_eq_true this
  have : kv = (p, s) := Prod.ext e h2
  rw [← this]
  exact List.mem_of_find?_eq_some h1
theorem find_nd {α : Type} {p : Int} {s : α} : ∀ {l : List (Int × α)}, (l.map (·.1)).Nodup → (p, s) ∈ l → l.find? (fun kv => decide (kv.1 = p)) = some (p, s)
  | [], _, h => nomatch h
  | q :: l, hn, h => by
    rw [List.map_cons, List.nodup_cons] at hn
    rw [List.find?_cons]
    rcases List.mem_cons.mp h with e | e
    · rw [← e, decide_eq_true rfl]
    · have : ¬ q.1 = p := fun z => hn.1 (z ▸ List.mem_map.mpr ⟨(p, s), e, rfl⟩)
      rw [decide_eq_false this]
      exact find_nd hn.2 e
theorem Dct.mem_get {α : Type} {d : Dct α} {p : Int} {s : α} (hn : (d.l.map (·.1)).Nodup) (h : (p, s) ∈ d.l) : d.get? p = some s := by
  unfold Dct.get?
  rw [find_nd hn h]
  rfl
theorem Dct.Ok.key {α : Type} {d : Dct α} {m p : Int} (h : d.Ok m) (hp : (d.get? p).isSome = true) : 0 ≤ p ∧ p < m := by
  refine h.2 p ?_
  unfold Dct.get? at hp
  obtain ⟨s, hs⟩ := Option.isSome_iff_exists.mp hp
  obtain ⟨kv, h1, h2⟩ := Option.map_eq_some_iff.mp hs
  have e : kv.1 = p := of_decide_eq_true (by simpa using List.find?_some h1)
  exact List.mem_map.mpr ⟨kv, List.mem_of_find?_eq_some h1, e⟩
/-! ### what one call does -/
structure TkOk (los : List Int) (bs : Int) (t : Dct Int) : Prop where
  ok : t.Ok bs
  fit : ∀ p s, t.get? p = some s → 0 ≤ s ∧ s < los.length ∧ ix los s ≤ p ∧ p < bs
def Full (los : List Int) (bs : Int) (t : Dct Int) (L : Int) : Prop := ∀ p, L ≤ p → p < bs → ∃ s, t.get? p = some s ∧ L ≤ ix los s
def Clo (los : List Int) (bs : Int) (a a' : Dct Bool) (t : Dct Int) : Prop := ∀ p, (a'.get? p).isSome = true → (a.get? p).isSome = false → ∃ s, t.get? p = some s ∧ ∀ q, ix los s ≤ q → q < bs → (a'.get? q).isSome = true
structure GwR (los : List Int) (bs : Int) (sheet : Int) (t : Dct Int) (a : Dct Bool) (r : Bool × GwS) : Prop where
  tk : TkOk los bs r.2.1
  ak : r.2.2.Ok bs
  al : a.l.length ≤ r.2.2.l.length
  am : ∀ p, (a.get? p).isSome = true → (r.2.2.get? p).isSome = true
  yes : r.1 = true → (r.2.1.l.map (·.2)).Perm (sheet :: t.l.map (·.2)) ∧ (∀ p, (a.get? p).isSome = true → r.2.1.get? p = t.get? p) ∧
    ∀ L, Full los bs t L → ix los sheet < L ∧ ∀ p, L ≤ p → p < bs → r.2.1.get? p = t.get? p
  no : r.1 = false → r.2.1 = t ∧ Clo los bs a r.2.2 t ∧ ∀ q, ix los sheet ≤ q → q < bs → (r.2.2.get? q).isSome = true
theorem TkOk.put {los : List Int} {bs p x : Int} {t : Dct Int} (h : TkOk los bs t) (h0 : 0 ≤ p) (hx : 0 ≤ x ∧ x < los.length ∧ ix los x ≤ p ∧ p < bs) : TkOk los bs (t.put p x) := by
  refine ⟨h.ok.put x ⟨h0, hx.2.2.2⟩, fun q s e => ?_⟩
  rw [Dct.get?_put] at e
  by_cases c : q = p
  · rw [if_pos c] at e
    cases e
    rw [c]
    exact hx
  · rw [if_neg c] at e
    exact h.fit q s e
theorem some_put {α : Type} {d : Dct α} {p q : Int} {x : α} (h : (d.get? q).isSome = true) : ((d.put p x).get? q).isSome = true := by
  rw [Dct.get?_put]
  by_cases c : q = p
  · rw [if_pos c]; rfl
  · rw [if_neg c]; exact h
theorem ne_asked {α : Type} {d : Dct α} {p q : Int} (h : (d.get? q).isSome = true) (h2 : (d.get? p).isSome = false) : q ≠ p := fun e => by
  rw [e, h2] at h
  cases h
theorem len_new {α : Type} {d : Dct α} {p : Int} {x : α} (h : (d.get? p).isSome = false) : (d.put p x).l.length = d.l.length + 1 := by
  rw [Dct.put_new (Option.isSome_eq_false_iff.mp h |> fun z => by simpa using z), List.length_append]
  rfl
theorem gw_loop {los : List Int} {bs sheet : Int} {rec : Int → GwS → Bool × GwS} {t : Dct Int} {a0 : Dct Bool} (ht : TkOk los bs t) (hsh : 0 ≤ sheet ∧ sheet < los.length) (h0 : 0 ≤ ix los sheet)
    (hrec : ∀ (z : Int) a, 0 ≤ z → z < los.length → a.Ok bs → a0.l.length < a.l.length → GwR los bs z t a (rec z (t, a))) :
    ∀ (post pre : List Int) (a : Dct Bool), pre ++ post = rng (ix los sheet) bs → a.Ok bs → a0.l.length ≤ a.l.length → (∀ p, (a0.get? p).isSome = true → (a.get? p).isSome = true) → Clo los bs a0 a t → (∀ q ∈ pre, (a.get? q).isSome = true) →
      GwR los bs sheet t a0 (forL (gwB rec sheet) (fun s => (false, s)) post (t, a)) := by
  intro post
  induction post with
  | nil =>
    intro pre a ex ak al am cl hp
    rw [forL]
    refine ⟨ht, ak, al, am, fun e => (by cases e), fun _ => ⟨rfl, cl, fun q h1 h2 => hp q ?_⟩⟩
    rw [List.append_nil] at ex
    rw [ex, mem_rng]
    exact ⟨h1, h2⟩
  | cons p post ih =>
    intro pre a ex ak al am cl hp
    have hpm : ix los sheet ≤ p ∧ p < bs := by
      have : p ∈ pre ++ p :: post := by simp
      rw [ex, mem_rng] at this
      exact this
    have ex2 : (pre ++ [p]) ++ post = rng (ix los sheet) bs := by rw [← ex]; simp
    cases hA : (a.get? p).isSome with
    | true =>
      rw [forL, gwB_asked hA]
      refine ih (pre ++ [p]) a ex2 ak al am cl fun q hq => ?_
      rcases List.mem_append.mp hq with z | z
      · exact hp q z
      · rw [List.mem_singleton.mp z]; exact hA
    | false =>
      have hA0 : (a0.get? p).isSome = false := by
        cases c : (a0.get? p).isSome with
        | false => rfl
        | true => rw [am p c] at hA; cases hA
      have ak2 : (a.put p true).Ok bs := ak.put true ⟨by omega, hpm.2⟩
      have al2 : (a.put p true).l.length = a.l.length + 1 := len_new hA
      have self : ((a.put p true).get? p).isSome = true := by rw [Dct.get?_put, if_pos rfl]; rfl
      cases hT : t.get? p with
      | none =>
        rw [forL, gwB_free hA hT]
        dsimp only
        refine ⟨ht.put (by omega) ⟨hsh.1, hsh.2, hpm.1, hpm.2⟩, ak2, by dsimp only; omega, fun q hq => some_put (am q hq), fun _ => ⟨?_, fun q hq => ?_, fun L hL => ?_⟩, fun e => (by cases e)⟩
        · dsimp only
          rw [Dct.put_new hT, List.map_append]
          exact List.perm_append_comm
        · dsimp only
          rw [Dct.get?_put, if_neg (ne_asked hq hA0)]
        · have hpL : p < L := by
            by_cases c : L ≤ p
            · obtain ⟨s, e, _⟩ := hL p c hpm.2
              rw [hT] at e
              cases e
            · omega
          refine ⟨by omega, fun q h1 h2 => ?_⟩
          dsimp only
          rw [Dct.get?_put, if_neg (by omega)]
      | some z =>
        have hz := ht.fit p z hT
        have R := hrec z (a.put p true) hz.1 hz.2.1 ak2 (by omega)
        cases hr : rec z (t, a.put p true) with
        | mk b s' =>
          rw [hr] at R
          cases b with
          | true =>
            rw [forL, gwB_yes hA hT hr]
            dsimp only
            obtain ⟨y1, y2, y3⟩ := R.yes rfl
            dsimp only at y1 y2 y3
            have hk : s'.1.get? p = some z := (y2 p self).trans hT
            refine ⟨R.tk.put (by omega) ⟨hsh.1, hsh.2, hpm.1, hpm.2⟩, R.ak, by have := R.al; dsimp only at this ⊢; omega, fun q hq => R.am q (some_put (am q hq)), fun _ => ⟨?_, fun q hq => ?_, fun L hL => ?_⟩, fun e => (by cases e)⟩
            · dsimp only
              have h1 := Dct.put_old (x := sheet) R.tk.ok.1 hk
              exact (h1.trans ((y1.cons sheet).trans (List.Perm.swap _ _ _))).cons_inv
            · dsimp only
              rw [Dct.get?_put, if_neg (ne_asked hq hA0)]
              exact y2 q (some_put (am q hq))
            · obtain ⟨g1, g2⟩ := y3 L hL
              have hpL : p < L := by
                by_cases c : L ≤ p
                · obtain ⟨s, e, e2⟩ := hL p c hpm.2
                  rw [hT] at e
                  cases e
                  omega
                · omega
              refine ⟨by omega, fun q h1 h2 => ?_⟩
              dsimp only
              rw [Dct.get?_put, if_neg (by omega)]
              exact g2 q h1 h2
          | false =>
            rw [forL, gwB_no hA hT hr]
            dsimp only
            obtain ⟨n1, n2, n3⟩ := R.no rfl
            obtain ⟨s1, s2⟩ := s'
            dsimp only at n1 n2 n3
            rw [n1]
            have am2 : ∀ q, ((a.put p true).get? q).isSome = true → (s2.get? q).isSome = true := R.am
            refine ih (pre ++ [p]) s2 ex2 R.ak (by have := R.al; dsimp only at this; omega) (fun q hq => am2 q (some_put (am q hq))) (fun q h1 h2 => ?_) fun q hq => ?_
            · cases c : ((a.put p true).get? q).isSome with
              | false => exact n2 q h1 c
              | true =>
                by_cases e : q = p
                · rw [e]
                  exact ⟨z, hT, n3⟩
                · rw [Dct.get?_put, if_neg e] at c
                  obtain ⟨s, e1, e2⟩ := cl q c h2
                  exact ⟨s, e1, fun q' g1 g2 => am2 q' (some_put (e2 q' g1 g2))⟩
            · rcases List.mem_append.mp hq with e | e
              · exact am2 q (some_put (hp q e))
              · rw [List.mem_singleton.mp e]
                exact am2 p self
/-- the places: of each sheet those from its own first one on -/
structure Frees (los : List Int) (bs : Int) (free : List (List Int)) : Prop where
  e : free = los.map fun l => rng l bs
  lo : ∀ l ∈ los, 0 ≤ l ∧ l ≤ bs
theorem ix_map {α β : Type} [Inhabited α] [Inhabited β] (f : α → β) {l : List α} {i : Int} (h : 0 ≤ i ∧ i < l.length) : ix (l.map f) i = f (ix l i) := by
  unfold ix
  rw [List.getD_eq_getElem?_getD, List.getD_eq_getElem?_getD, List.getElem?_map, List.getElem?_eq_getElem (show i.toNat < l.length by omega)]
  rfl
theorem ix_mem' {α : Type} [Inhabited α] {l : List α} {i : Int} (h : 0 ≤ i ∧ i < l.length) : ix l i ∈ l := List.mem_of_getElem? (ix_at h.1 h.2)
theorem Frees.at_ {los : List Int} {bs sheet : Int} {free : List (List Int)} (F : Frees los bs free) (h : 0 ≤ sheet ∧ sheet < los.length) : ix free sheet = rng (ix los sheet) bs := by
  rw [F.e, ix_map _ h]
theorem Dct.Ok.cnt {α : Type} {d : Dct α} {m : Int} (h : d.Ok m) (h0 : 0 ≤ m) : (d.l.length : Int) ≤ m := by
  have := Dct.nodup_le m.toNat (d.l.map (·.1)) h.1 (fun k hk => by have := h.2 k hk; omega)
  rw [List.length_map] at this
  omega
theorem gw_ok {los : List Int} {bs : Int} {free : List (List Int)} (F : Frees los bs free) : ∀ (n : Nat) (sheet : Int) (t : Dct Int) (a : Dct Bool), TkOk los bs t → a.Ok bs → 0 ≤ sheet ∧ sheet < los.length → bs < n + a.l.length → GwR los bs sheet t a (gw free n sheet (t, a)) := by
  intro n
  induction n with
  | zero =>
    intro sheet t a ht ha hs hf
    have h1 := F.lo _ (ix_mem' hs)
    have := ha.cnt (by omega)
    omega
  | succ n ih =>
    intro sheet t a ht ha hs hf
    have h1 := F.lo _ (ix_mem' hs)
    rw [gw_succ, F.at_ hs]
    refine gw_loop ht hs h1.1 (fun z a' z0 z1 ha' hl => ih z t a' ht ha' ⟨z0, z1⟩ (by omega)) _ [] a rfl ha (Nat.le_refl _) (fun p hp => hp) (fun p h1 h2 => ?_) fun q hq => nomatch hq
    rw [h2] at h1
    cases h1
/-- behind a call that finds none: all places from some one on are taken, by sheets that want none ahead -/
theorem full_of {los : List Int} {bs sheet : Int} {t : Dct Int} {r : Bool × GwS} (hlo : 0 ≤ ix los sheet ∧ ix los sheet ≤ bs) (ht : TkOk los bs t) (R : GwR los bs sheet t Dct.emp r) (h : r.1 = false) : ∃ L, L ≤ bs ∧ L ≤ ix los sheet ∧ Full los bs t L := by
  obtain ⟨_, cl, al⟩ := R.no h
  have cl' : ∀ p, (r.2.2.get? p).isSome = true → ∃ s, t.get? p = some s ∧ ∀ q, ix los s ≤ q → q < bs → (r.2.2.get? q).isSome = true := fun p hp => cl p hp rfl
  -- the least asked
  have least : ∀ k : Nat, ∀ q : Int, q = bs - k → 0 ≤ q → (r.2.2.get? q).isSome = true → ∃ m, m ≤ q ∧ (r.2.2.get? m).isSome = true ∧ ∀ p, (r.2.2.get? p).isSome = true → m ≤ p := by
    have aux : ∀ n : Nat, ∀ q : Int, q.toNat = n → 0 ≤ q → (r.2.2.get? q).isSome = true → ∃ m, m ≤ q ∧ (r.2.2.get? m).isSome = true ∧ ∀ p, (r.2.2.get? p).isSome = true → m ≤ p := by
      intro n
      induction n using Nat.strongRecOn with
      | _ n ih =>
        intro q e h0 hq
        by_cases c : ∃ p, (r.2.2.get? p).isSome = true ∧ p < q
        · obtain ⟨p, h1, h2⟩ := c
          have hp := R.ak.key h1
          obtain ⟨m, g1, g2, g3⟩ := ih p.toNat (by omega) p rfl hp.1 h1
          exact ⟨m, by omega, g2, g3⟩
        · exact ⟨q, Int.le_refl _, hq, fun p hp => by
            by_cases d : p < q
            · exact absurd ⟨p, hp, d⟩ c
            · omega⟩
    intro _ q _ h0 hq
    exact aux _ q rfl h0 hq
  by_cases hA : ∃ q, (r.2.2.get? q).isSome = true
  · obtain ⟨q, hq⟩ := hA
    have hqb := R.ak.key hq
    obtain ⟨m, _, g2, g3⟩ := least (bs - q).toNat q (by omega) hqb.1 hq
    have hm := R.ak.key g2
    refine ⟨m, by omega, ?_, fun p h1 h2 => ?_⟩
    · by_cases c : ix los sheet < bs
      · exact g3 _ (al _ (Int.le_refl _) c)
      · omega
    · obtain ⟨s, e1, e2⟩ := cl' m g2
      have f1 := ht.fit m s e1
      have hp := e2 p (by omega) h2
      obtain ⟨s', e3, e4⟩ := cl' p hp
      have f2 := ht.fit p s' e3
      exact ⟨s', e3, g3 _ (e4 _ (Int.le_refl _) (by omega))⟩
  · have : ix los sheet = bs := by
      by_cases c : ix los sheet < bs
      · exact absurd ⟨_, al _ (Int.le_refl _) c⟩ hA
      · omega
    exact ⟨bs, Int.le_refl _, by omega, fun p h1 h2 => by omega⟩
/-! ### all sheets by turns -/
structure MtI (los : List Int) (bs : Int) (pre M N : List Int) (t : Dct Int) : Prop where
  tk : TkOk los bs t
  pm : (t.l.map (·.2)).Perm M
  all : (M ++ N).Perm pre
  no : N = [] ∨ ∃ L, L ≤ bs ∧ Full los bs t L ∧ ∀ x ∈ N, L ≤ ix los x
theorem MtI.yes {los : List Int} {bs x : Int} {pre M N : List Int} {t : Dct Int} {r : Bool × GwS} (I : MtI los bs pre M N t) (R : GwR los bs x t Dct.emp r) (h : r.1 = true) : MtI los bs (pre ++ [x]) (M ++ [x]) N r.2.1 := by
  obtain ⟨y1, _, y3⟩ := R.yes h
  refine ⟨R.tk, y1.trans ((I.pm.cons x).trans (List.perm_append_singleton _ _).symm), ?_, ?_⟩
  · refine List.Perm.trans ?_ (I.all.append_right [x])
    rw [List.append_assoc, List.append_assoc]
    exact List.Perm.append_left M List.perm_append_comm
  · rcases I.no with e | ⟨L, h1, h2, h3⟩
    · exact .inl e
    · refine .inr ⟨L, h1, fun p g1 g2 => ?_, h3⟩
      rw [(y3 L h2).2 p g1 g2]
      exact h2 p g1 g2
theorem MtI.nope {los : List Int} {bs x : Int} {pre M N : List Int} {t : Dct Int} {r : Bool × GwS} (hlo : 0 ≤ ix los x ∧ ix los x ≤ bs) (I : MtI los bs pre M N t) (R : GwR los bs x t Dct.emp r) (h : r.1 = false) : MtI los bs (pre ++ [x]) M (N ++ [x]) r.2.1 := by
  have e := (R.no h).1
  rw [e]
  refine ⟨I.tk, I.pm, by rw [← List.append_assoc]; exact I.all.append_right [x], .inr ?_⟩
  obtain ⟨L, h1, h2, h3⟩ := full_of hlo I.tk R h
  rcases I.no with e | ⟨L', g1, g2, g3⟩
  · refine ⟨L, h1, h3, fun y hy => ?_⟩
    rw [e, List.nil_append, List.mem_singleton] at hy
    rw [hy]; exact h2
  · by_cases c : L ≤ L'
    · refine ⟨L, h1, h3, fun y hy => ?_⟩
      rcases List.mem_append.mp hy with z | z
      · have := g3 y z; omega
      · rw [List.mem_singleton.mp z]; exact h2
    · refine ⟨L', g1, g2, fun y hy => ?_⟩
      rcases List.mem_append.mp hy with z | z
      · exact g3 y z
      · rw [List.mem_singleton.mp z]; omega
def mtF (free : List (List Int)) (k : Nat) (t : Dct Int) (x : Int) : Bool := (gw free k x (t, Dct.emp)).1
def mtS (free : List (List Int)) (k : Nat) (t : Dct Int) (x : Int) : Dct Int := (gw free k x (t, Dct.emp)).2.1
@[irreducible] def mtM (free : List (List Int)) (k : Nat) (xs : List Int) : List Int := (pickX (mtF free k) (fun x : Int => x) (mtS free k) xs Dct.emp).1
theorem mt_inv {los : List Int} {bs : Int} {free : List (List Int)} {k : Nat} (F : Frees los bs free) (hk : bs < k) (hb : 0 ≤ bs) : ∀ xs : List Int, (∀ x ∈ xs, 0 ≤ x ∧ x < los.length) →
    ∃ N, MtI los bs xs (pickX (mtF free k) (fun x : Int => x) (mtS free k) xs Dct.emp).1 N (pickX (mtF free k) (fun x : Int => x) (mtS free k) xs Dct.emp).2 := by
  intro xs
  induction xs using rev_ind with
  | h0 =>
    intro _
    exact ⟨[], ⟨⟨Dct.Ok.emp, fun p s e => by rw [show (pickX (mtF free k) (fun x => x) (mtS free k) [] Dct.emp).snd = Dct.emp from rfl, Dct.get?_emp] at e; cases e⟩, List.Perm.nil, List.Perm.nil, .inl rfl⟩⟩
  | h1 xs x ih =>
    intro hx
    obtain ⟨N, I⟩ := ih fun y hy => hx y (List.mem_append_left _ hy)
    have hx1 := hx x (by simp)
    have R := gw_ok F k x _ Dct.emp I.tk Dct.Ok.emp hx1 (by show bs < k + ((0 : Nat) : Int); omega)
    have e1 : pickX (mtF free k) (fun x : Int => x) (mtS free k) (xs ++ [x]) Dct.emp = (if mtF free k (pickX (mtF free k) (fun x : Int => x) (mtS free k) xs Dct.emp).2 x = true then (pickX (mtF free k) (fun x : Int => x) (mtS free k) xs Dct.emp).1 ++ [x] else (pickX (mtF free k) (fun x : Int => x) (mtS free k) xs Dct.emp).1, mtS free k (pickX (mtF free k) (fun x : Int => x) (mtS free k) xs Dct.emp).2 x) := by
      unfold pickX
      rw [List.foldl_append]
      rfl
    rw [e1]
    generalize pickX (mtF free k) (fun x : Int => x) (mtS free k) xs Dct.emp = q at I R ⊢
    cases hb' : mtF free k q.2 x with
    | true => exact ⟨N, by simp only [if_true]; exact I.yes R hb'⟩
    | false => exact ⟨N ++ [x], by simp only [Bool.false_eq_true, if_false]; exact I.nope (F.lo _ (ix_mem' hx1)) R hb'⟩
theorem mt_tk {los : List Int} {bs : Int} {free : List (List Int)} {k : Nat} (F : Frees los bs free) (hk : bs < k) (hb : 0 ≤ bs) (xs : List Int) (hx : ∀ x ∈ xs, 0 ≤ x ∧ x < los.length) : TkOk los bs (xs.foldl (mtS free k) Dct.emp) := by
  obtain ⟨N, I⟩ := mt_inv F hk hb xs hx
  obtain ⟨ys, _, e⟩ := pickX_sub (mtF free k) (fun x : Int => x) (mtS free k) xs Dct.emp
  have := I.tk
  rw [e] at this
  exact this
/-- as many as are matched -/
theorem cnt_places {los : List Int} {bs L : Int} {t : Dct Int} {M : List Int} (hT : TkOk los bs t) (hM : (t.l.map (·.2)).Perm M) (hL : L ≤ bs) : ((M.filter fun x => decide (L ≤ ix los x)).length : Int) ≤ bs - L := by
  rw [← filter_perm_len hM, List.filter_map, List.length_map]
  have h1 : (t.l.filter ((fun x => decide (L ≤ ix los x)) ∘ fun x => x.2)).length ≤ (t.l.filter fun kv => decide (L ≤ kv.1)).length := by
    rw [← List.countP_eq_length_filter, ← List.countP_eq_length_filter]
    refine List.countP_mono_left fun kv hk h => ?_
    have f := hT.fit kv.1 kv.2 (Dct.mem_get hT.ok.1 hk)
    have : L ≤ ix los kv.2 := of_decide_eq_true h
    exact decide_eq_true (by omega)
  have h2 : ((t.l.filter fun kv => decide (L ≤ kv.1)).length : Int) ≤ bs - L := by
    have := Dct.nodup_le (bs - L).toNat (((t.l.filter fun kv => decide (L ≤ kv.1)).map (·.1)).map fun p => p - L) ?_ fun p hp => ?_
    · rw [List.length_map, List.length_map] at this
      omega
    · have hn : ((t.l.filter fun kv => decide (L ≤ kv.1)).map (·.1)).Nodup := (List.Sublist.map _ List.filter_sublist).nodup hT.ok.1
      exact List.pairwise_map.mpr (hn.imp fun {a b} (h : a ≠ b) (e : a - L = b - L) => h (by omega))
    · obtain ⟨p', h1, h2⟩ := List.mem_map.mp hp
      obtain ⟨kv, h3, h4⟩ := List.mem_map.mp h1
      obtain ⟨h5, h6⟩ := List.mem_filter.mp h3
      have := hT.ok.2 kv.1 (List.mem_map.mpr ⟨kv, h5, rfl⟩)
      have := of_decide_eq_true h6
      omega
  omega
theorem cnt_full {los : List Int} {bs L : Int} {t : Dct Int} {M : List Int} (hT : TkOk los bs t) (hM : (t.l.map (·.2)).Perm M) (hF : Full los bs t L) : bs - L ≤ ((M.filter fun x => decide (L ≤ ix los x)).length : Int) := by
  rw [← filter_perm_len hM, List.filter_map, List.length_map]
  have h1 : (rng L bs).length ≤ ((t.l.filter ((fun x => decide (L ≤ ix los x)) ∘ fun x => x.2)).map (·.1)).length := by
    have nd : (rng L bs).Nodup := rng_nodup L bs
    have key : ∀ (xs ys : List Int), xs.Nodup → (∀ x ∈ xs, x ∈ ys) → xs.length ≤ ys.length := by
      intro xs
      induction xs with
      | nil => intro _ _ _; exact Nat.zero_le _
      | cons x xs ih =>
        intro ys hn h
        have hx := h x List.mem_cons_self
        have := ih (ys.erase x) (List.nodup_cons.mp hn).2 fun y hy => (List.mem_erase_of_ne (fun e : y = x => (List.nodup_cons.mp hn).1 (e ▸ hy))).mpr (h y (List.mem_cons_of_mem _ hy))
        rw [List.length_erase_of_mem hx] at this
        have := List.length_pos_of_mem hx
        simp only [List.length_cons]
        omega
    refine key _ _ nd fun p hp => ?_
    rw [mem_rng] at hp
    obtain ⟨s, e1, e2⟩ := hF p hp.1 hp.2
    exact List.mem_map.mpr ⟨(p, s), List.mem_filter.mpr ⟨Dct.get_mem e1, decide_eq_true e2⟩, rfl⟩
  rw [List.length_map] at h1
  have : ((rng L bs).length : Int) ≥ bs - L := by
    unfold rng
    rw [List.length_map, List.length_range]
    omega
  omega
theorem fold_free {α β : Type} (g : α → β) : ∀ (l : List α) (acc : List β), l.foldl (fun f x => f ++ [g x]) acc = acc ++ l.map g
  | [], acc => by simp
  | x :: l, acc => by rw [List.foldl_cons, fold_free g l]; simp
/-- what the law's matching counts is what least_left tells -/
def losM (n : Int) (trail : List (Tp Int)) (b stop : Int) : List Int := (rng 0 n).map fun x => b * (lastW trail stop x + 1)
@[irreducible] def freeM (n : Int) (trail : List (Tp Int)) (b stop : Int) : List (List Int) := (rng 0 n).map fun x => rng (b * (lastW trail stop x + 1)) (b * stop)
theorem frees21 {n b stop : Int} {trail : List (Tp Int)} (hb : 1 ≤ b) (h0 : 0 ≤ stop) : Frees (losM n trail b stop) (b * stop) (freeM n trail b stop) := by
  refine ⟨by unfold freeM losM; rw [List.map_map]; rfl, fun l hl => ?_⟩
  unfold losM at hl
  obtain ⟨x, _, rfl⟩ := List.mem_map.mp hl
  have h1 : -1 ≤ lastW trail stop x := lastW_ge trail stop x
  have h2 : lastW trail stop x < stop := lastW_lt h0
  have e1 : 0 ≤ b * (lastW trail stop x + 1) := Int.mul_nonneg (by omega) (by omega)
  have e2 : b * (lastW trail stop x + 1) ≤ b * stop := Int.mul_le_mul_of_nonneg_left (by omega) (by omega)
  exact ⟨e1, e2⟩
theorem los_len {n b stop : Int} {trail : List (Tp Int)} (hn : 0 ≤ n) : ((losM n trail b stop).length : Int) = n := by
  unfold losM
  rw [List.length_map, len_rng]
  omega
theorem los_ix {n b stop x : Int} {trail : List (Tp Int)} (h : 0 ≤ x ∧ x < n) : ix (losM n trail b stop) x = b * (lastW trail stop x + 1) := by
  have hx : ix (rng 0 n) x = x := by
    unfold ix rng
    rw [List.getD_eq_getElem?_getD, List.getElem?_map, List.getElem?_range (by omega)]
    simp only [Option.map_some, Option.getD_some]
    omega
  unfold losM
  rw [ix_map (fun x => b * (lastW trail stop x + 1)) ⟨h.1, by rw [len_rng]; omega⟩, hx]
theorem matched_eq {n b stop : Int} {trail : List (Tp Int)} {k : Nat} (hn : 0 ≤ n) (hb : 1 ≤ b) (h0 : 0 ≤ stop) (hk : b * stop < k) : (leastM n trail b stop).1 = n - ((mtM (freeM n trail b stop) k (rng 0 n)).length : Int) := by
  have F := frees21 (n := n) (trail := trail) hb h0
  have hbs : 0 ≤ b * stop := Int.mul_nonneg (by omega) h0
  obtain ⟨N, I⟩ := mt_inv F hk hbs (rng 0 n) fun x hx => by rw [los_len hn]; exact mem_rng.mp hx
  unfold mtM
  generalize pickX (mtF (freeM n trail b stop) k) (fun x : Int => x) (mtS (freeM n trail b stop) k) (rng 0 n) Dct.emp = q at I ⊢
  obtain ⟨f1, f2, f3, f4⟩ := least_spec (n := n) (b := b) (stop := stop) (trace := trail) (by omega) h0
  have hlen : (q.1.length : Int) + N.length = n := by
    have := I.all.length_eq
    rw [List.length_append, len_rng] at this
    omega
  -- counts
  have cnt : ∀ (t : Int) (L : Int), (∀ l : Int, t ≤ l ↔ L ≤ b * (l + 1)) → ((lastsM n trail stop).filter fun x => decide (t ≤ x)).length = (q.1.filter fun x => decide (L ≤ ix (losM n trail b stop) x)).length + (N.filter fun x => decide (L ≤ ix (losM n trail b stop) x)).length := by
    intro t L hL
    rw [← List.length_append, ← List.filter_append, filter_perm_len I.all]
    unfold lastsM
    rw [List.filter_map, List.length_map]
    congr 1
    apply List.filter_congr
    intro x hx
    rw [los_ix (mem_rng.mp hx)]
    show decide (t ≤ lastW trail stop x) = _
    exact decide_eq_decide.mpr (hL _)
  have up : (leastM n trail b stop).1 ≤ N.length := by
    cases e : (leastM n trail b stop).2 with
    | none => rw [f3.mpr e]; omega
    | some t =>
      obtain ⟨g1, g2, g3⟩ := f4 t e
      rw [← g3]
      unfold lackM
      have := cnt t (b * (t + 1)) fun l => ⟨fun h => Int.mul_le_mul_of_nonneg_left (by omega) (by omega), fun h => by
        have := Int.le_of_mul_le_mul_left h (by omega : 0 < b)
        omega⟩
      rw [this]
      have h1 := cnt_places (L := b * (t + 1)) I.tk I.pm (Int.mul_le_mul_of_nonneg_left (by omega) (by omega))
      have h2 : (N.filter fun x => decide (b * (t + 1) ≤ ix (losM n trail b stop) x)).length ≤ N.length := List.length_filter_le _ _
      have e2 : b * (stop - t - 1) = b * stop - b * (t + 1) := by rw [← Int.mul_sub]; congr 1; omega
      rw [e2]
      omega
  have lo : (N.length : Int) ≤ (leastM n trail b stop).1 := by
    rcases I.no with e | ⟨L, h1, h2, h3⟩
    · rw [e]; exact f1
    · -- the least number whose places begin at L or behind it
      have hc1 : L ≤ b * (-((-L) / b)) := by
        have := Int.mul_ediv_self_le (x := -L) (k := b) (by omega)
        rw [Int.mul_neg]
        omega
      have hc2 : b * (-((-L) / b)) < L + b := by
        have := Int.lt_mul_ediv_self_add (x := -L) (k := b) (by omega)
        rw [Int.mul_neg]
        omega
      generalize -((-L) / b) = c at hc1 hc2
      have hcs : c ≤ stop := by
        by_cases d : c ≤ stop
        · exact d
        · have := Int.mul_le_mul_of_nonneg_left (show stop + 1 ≤ c by omega) (show 0 ≤ b by omega)
          rw [Int.mul_add, Int.mul_one] at this
          omega
      have hcn := cnt (c - 1) L fun l => ⟨fun h => by
        have := Int.mul_le_mul_of_nonneg_left (show c ≤ l + 1 by omega) (show 0 ≤ b by omega)
        omega, fun h => by
        by_cases d : c - 1 ≤ l
        · exact d
        · have := Int.mul_le_mul_of_nonneg_left (show l + 1 ≤ c - 1 by omega) (show 0 ≤ b by omega)
          rw [Int.mul_sub, Int.mul_one] at this
          omega⟩
      have h4 := cnt_full I.tk I.pm h2
      have h5 : (N.filter fun x => decide (L ≤ ix (losM n trail b stop) x)).length = N.length := by
        rw [List.filter_eq_self.mpr fun x hx => decide_eq_true (h3 x hx)]
      have := f2 (c - 1) (by omega)
      unfold lackM at this
      rw [hcn, h5] at this
      have e3 : b * (stop - (c - 1) - 1) = b * stop - b * c := by rw [← Int.mul_sub]; congr 1; omega
      rw [e3] at this
      omega
  omega
end GL

/-! A def that turns two dicts behind two settled things, and calls itself. -/
namespace GL
open PySem PySem.Spec PyProof.Rows L2
/-- a dict with its place -/
structure DA (α : Type) where
  a : Addr
  d : Dct α
instance {α : Type} [Py α] : Own (DA α) := ⟨fun K S H v ps z => ∃ us, v = .ref z.a ∧ ps = [z.a] ∧ H z.a = some (.dK us) ∧ RepD K S us z.d.l, fun {K S S' H H' v ps x} e a ⟨us, h1, h2, h3, h4⟩ => by
  subst h2
  exact ⟨us, h1, rfl, by rw [a _ List.mem_cons_self]; exact h3, h4.mono e⟩⟩
def spGW (K : Fg) (f : Int → List (List Int) → Dct Int → Dct Bool → Bool × GwS) (pre : Int → List (List Int) → Dct Int → Dct Bool → Prop) : Sp := fun vs H Q _ => ∃ (S : Hp) (w0 w1 : V) (p0 p1 : Addr) (k0 k1 : List (Key × V)) (x : Int) (fr : List (List Int)) (z : Dct Int) (y : Dct Bool),
  vs = [w0, w1, .ref p0, .ref p1] ∧ Same S H ∧ Py.rep K S w0 x ∧ Py.rep K S w1 fr ∧ (H p0 = some (.dK k0) ∧ RepD K S k0 z.l) ∧ (H p1 = some (.dK k1) ∧ RepD K S k1 y.l) ∧ p0 ≠ p1 ∧ S p0 = none ∧ S p1 = none ∧ pre x fr z y ∧
  ∀ v S' H' k0' k1', Same S S' → Same S' H' → (∀ p o, p ≠ p0 → p ≠ p1 → H p = some o → H' p = some o) → (∀ p o, H p = some o → S' p = S p) → S' p0 = none → S' p1 = none →
    (H' p0 = some (.dK k0') ∧ RepD K S' k0' (f x fr z y).2.1.l) → (H' p1 = some (.dK k1') ∧ RepD K S' k1' (f x fr z y).2.2.l) → Py.rep K S' v (f x fr z y).1 → Q v H'
section
variable {K : Fg} {B S0 S1 S S' D : Hp} {σ : L2.St} {H H' : Hp} {F : Nat → List Addr} {G G' G1 G2 G3 : List Sl} {ta tb tc te : TE} {i j : Nat} {t : TA} {u w : TS} {tt uu : TT} {E : Ends} {X : XK}
section
variable {α : Type} [Py α] {z : DA α} {n : Int}
theorem ev_dninA (hk : EvX K ta G n G1) (hi : G1[i]? = some (.ow z)) : EvX K (tDNotIn ta (tVar i)) G (!(z.d.get? n).isSome) G1 := fun B S0 S σ H F k Q q =>
  hk B S0 S σ H F k _ fun v S1 H1 e1 k1 r1 => by
    obtain ⟨w, h1, kvs, rfl, h2, h3, h4⟩ := k1.ow hi
    rw [show v = .int n from r1]
    exact ⟨_, h1, z.a, _, rfl, dgetI h3, q _ S1 H1 e1 k1 (by rw [h4.isSome]; rfl)⟩
theorem ev_dgetA [Inhabited α] (hi : G[i]? = some (.ow z)) (hk : EvX K tb G n G1) (hi1 : G1[i]? = some (.ow z)) (h : (z.d.get? n).isSome = true) : EvX K (tDGet (tVar i) tb) G (dix z.d n) G1 := fun B S0 S σ H F k Q q => by
  obtain ⟨w, h1, kvs, rfl, h2, h3, h4⟩ := k.ow hi
  refine ⟨_, h1, hk B S0 S σ H F k _ fun u S2 H2 e2 k2 r2 => ?_⟩
  obtain ⟨w', h1', kvs', rfl, h2', h3', h4'⟩ := k2.ow hi1
  rw [show u = .int n from r2]
  cases e : z.d.get? n with
  | none => rw [e] at h; cases h
  | some x' =>
    obtain ⟨w, g1, g2⟩ := (h4'.get (k := n)).1 x' e
    have g := dgetI (k := n) h3'
    rw [g1] at g
    refine ⟨z.a, w, rfl, g, q w S2 H2 e2 k2 ?_⟩
    unfold dix
    rw [e]
    exact g2
theorem q_dputA {x : α} (i : Nat) (h : EvX K te G x G1) (hk : EvX K tb G1 n G2) (hl1 : G1[i]? = some (.ow z)) (hl : G2[i]? = some (.ow z)) (hz : z.d.l.length < sizeLine) (k : At K B S0 (u E) (G2.set i (.ow (DA.mk z.a (z.d.put n x))))) :
    At K B S0 (tSeq (sDPut (tVar i) tb te) u E) G := fun S σ H F kn =>
  h B S0 S σ H F kn _ fun v S1 H1 e1 k1 r1 => by
    obtain ⟨w', h1, vs, rfl, h2, h3, h4⟩ := k1.ow hl1
    refine ⟨_, h1, hk B S0 S1 σ H1 F k1 _ fun w S2 H2 e2 k2 r2 => ?_⟩
    obtain ⟨w', h1', vs', rfl, h2', h3', h4'⟩ := k2.ow hl
    rw [show w = .int n from r2]
    refine ⟨z.a, _, rfl, DPut.k (k := Sum.inl n) h3' (by rw [h4'.len]; exact hz), k S2 σ _ F ?_⟩
    refine k2.mut h1 (fun q hq => upd_ne fun e => hq (by rw [h2', e]; exact List.mem_singleton.mpr rfl)) (fun q hq => ?_) ⟨_, rfl, h2', upd_same, h4'.put n (Py.mono e2 r1)⟩
    rw [h2'] at hq
    cases List.mem_singleton.mp hq
    exact ⟨_, upd_same⟩
end
theorem et_orT {b : Bool} (h1 : EvT K tt G b G1) (hb : b = true) : EvT K (tOr tt uu) G true G1 := fun B S0 S σ H F k Q q => h1 B S0 S σ H F k _ fun S1 H1 e1 k1 => by
  subst hb
  show Q true H1
  exact q S1 H1 e1 k1
theorem et_orF {b c : Bool} (h1 : EvT K tt G b G1) (hb : b = false) (h2 : EvT K uu G1 c G2) : EvT K (tOr tt uu) G c G2 := fun B S0 S σ H F k Q q => h1 B S0 S σ H F k _ fun S1 H1 e1 k1 => by
  subst hb
  show uu σ H1 Q
  exact h2 B S0 S1 σ H1 F k1 Q fun S2 H2 e2 k2 => q S2 H2 (e1.trans e2) k2
section
variable {f : Int → List (List Int) → Dct Int → Dct Bool → Bool × GwS} {pre : Int → List (List Int) → Dct Int → Dct Bool → Prop} {x : Int} {fr : List (List Int)}
theorem upF_id {F : Nat → List Addr} {i : Nat} {ps : List Addr} (h : F i = ps) : upF F i ps = F := by
  funext k
  by_cases c : k = i
  · rw [c, upF_self, h]
  · rw [upF_ne c]
theorem ev_callGW {z : DA Int} {y : DA Bool} (ne : i ≠ j) (ha : EvX K ta G x G) (hb : EvX K tb G fr G) (hi : G[i]? = some (.ow z)) (hj : G[j]? = some (.ow y)) (hp : pre x fr z.d y.d) :
    EvX K (tCall (spGW K f pre) [] X (tCons ta (tCons tb (tCons (tVar i) (tCons (tVar j) tNil))))) G (f x fr z.d y.d).1 ((G.set i (.ow (DA.mk z.a (f x fr z.d y.d).2.1))).set j (.ow (DA.mk y.a (f x fr z.d y.d).2.2))) := fun B S0 S σ H F k Q q =>
  ha B S0 S σ H F k _ fun v S1 H1 e1 k1 r1 => hb B S0 S1 σ H1 F k1 _ fun u S2 H2 e2 k2 r2 => by
    obtain ⟨w0, g1, a0, rfl, g2, g3, g4⟩ := k2.ow hi
    obtain ⟨w1, f1, a1, rfl, f2, f3, f4⟩ := k2.ow hj
    refine ⟨_, g1, _, f1, ?_⟩
    show spGW K f pre ([v, u, .ref z.a, .ref y.a] ++ []) H2 Q X
    rw [List.append_nil]
    have m0 : z.a ∈ F i := by rw [g2]; exact List.mem_singleton.mpr rfl
    have m1 : y.a ∈ F j := by rw [f2]; exact List.mem_singleton.mpr rfl
    have nz : z.a ≠ y.a := fun e => ne (k2.dj i j z.a m0 (e ▸ m1))
    have cF : ∀ p, p ∉ F i → p ≠ z.a := fun p hp e => hp (e ▸ m0)
    have cF' : ∀ p, p ∉ F j → p ≠ y.a := fun p hp e => hp (e ▸ m1)
    refine ⟨S2, v, u, z.a, y.a, a0, a1, x, fr, z.d, y.d, rfl, k2.sub, Py.mono e2 r1, r2, ⟨g3, g4⟩, ⟨f3, f4⟩, nz, (k2.off i _ m0).1, (k2.off j _ m1).1, hp, fun v' S' H' k0' k1' s1 s2 hk hc n0 n1 h0 h1 rv => q v' S' H' ((e1.trans e2).trans s1) ?_ rv⟩
    have := k2.moved2 (z' := DA.mk z.a (f x fr z.d y.d).2.1) (y' := DA.mk y.a (f x fr z.d y.d).2.2) (ps' := [z.a]) (qs' := [y.a]) ne hi hj g1 f1 s1 s2 (fun p o c c' e => hk p o (cF p c) (cF' p c') e) (fun p o _ _ e => hc p o e)
      (fun p hp => by rw [List.mem_singleton.mp hp]; exact ⟨n0, ⟨_, h0.1⟩, .inl m0⟩) (fun p hp => by rw [List.mem_singleton.mp hp]; exact ⟨n1, ⟨_, h1.1⟩, .inr (.inl m1)⟩) (fun p hp hp' => nz ((List.mem_singleton.mp hp).symm.trans (List.mem_singleton.mp hp')))
      ⟨_, rfl, rfl, h0.1, h0.2⟩ ⟨_, rfl, rfl, h1.1, h1.2⟩
    rw [upF_id (F := upF F i [z.a]) (by rw [upF_ne ne.symm, f2]), upF_id g2] at this
    exact this
theorem ev_callGW0 {z : Dct Int} (ha : EvX K ta G x G) (hb : EvX K tb G fr G) (hi : G[i]? = some (.ow z)) (hp : pre x fr z Dct.emp) :
    EvX K (tCall (spGW K f pre) [] X (tCons ta (tCons tb (tCons (tVar i) (tCons tDNewK tNil))))) G (f x fr z Dct.emp).1 (G.set i (.ow (f x fr z Dct.emp).2.1)) := fun B S0 S σ H F k Q q =>
  ha B S0 S σ H F k _ fun v S1 H1 e1 k1 r1 => hb B S0 S1 σ H1 F k1 _ fun u S2 H2 e2 k2 r2 => by
    obtain ⟨w0, g1, p, a0, rfl, g2, g3, g4⟩ := k2.ow hi
    refine ⟨_, g1, fun D hD => ?_⟩
    show spGW K f pre ([v, u, .ref p, .ref D] ++ []) _ Q X
    rw [List.append_nil]
    have m0 : p ∈ F i := by rw [g2]; exact List.mem_singleton.mpr rfl
    have nz : p ≠ D := fun e => by rw [e, hD] at g3; cases g3
    have up : ∀ q o, H2 q = some o → upd H2 D (.dK []) q = some o := fun q o e => by rw [upd_ne (ne_of_none e hD)]; exact e
    refine ⟨S2, v, u, p, D, a0, [], x, fr, z, Dct.emp, rfl, (k2.raw hD).sub, Py.mono e2 r1, r2, ⟨up _ _ g3, g4⟩, ⟨upd_same, True.intro⟩, nz, (k2.off i _ m0).1, (k2.free hD).1, hp, fun v' S' H' k0' k1' s1 s2 hk hc n0 n1 h0 h1 rv => q v' S' H' ((e1.trans e2).trans s1) ?_ rv⟩
    have := k2.moved (z' := (f x fr z Dct.emp).2.1) (ps' := [p]) hi g1 s1 s2 (fun q o c e => hk q o (fun e2 => c (e2 ▸ m0)) (ne_of_none e hD) (up q o e)) (fun q o _ e => hc q o (up q o e))
      (fun q hq => by rw [List.mem_singleton.mp hq]; exact ⟨n0, ⟨_, h0.1⟩, .inl m0⟩) ⟨p, _, rfl, rfl, h0.1, h0.2⟩
    rw [upF_id g2] at this
    exact this
end
end
section
variable {P : Program} {w : World} {K : Fg} {mg : Str → Option Value} {base : Heap} {S H : Hp} {f : Int → List (List Int) → Dct Int → Dct Bool → Bool × GwS} {pre : Int → List (List Int) → Dct Int → Dct Bool → Prop}
theorem start_knGW {w0 w1 : V} {p0 p1 : Addr} {k0 k1 : List (Key × V)} {x : Int} {fr : List (List Int)} {z : Dct Int} {y : Dct Bool} {N : List Str} (e : Same S H) (r0 : Py.rep K S w0 x) (r1 : Py.rep K S w1 fr) (h0 : H p0 = some (.dK k0) ∧ RepD K S k0 z.l) (h1 : H p1 = some (.dK k1) ∧ RepD K S k1 y.l) (ne : p0 ≠ p1) (n0 : S p0 = none) (n1 : S p1 = none) :
    Kn K (fun p => if p = p0 ∨ p = p1 then none else H p) S S (L2.start N [w0, w1, .ref p0, .ref p1]) H (fun i => if i = 2 then [p0] else if i = 3 then [p1] else []) ([.im x, .im fr, .ow (DA.mk p0 z), .ow (DA.mk p1 y)] ++ List.replicate (N.length - 4) .no) := by
  have hF : ∀ i p, p ∈ (if i = 2 then [p0] else if i = 3 then [p1] else []) → (i = 2 ∧ p = p0) ∨ (i = 3 ∧ p = p1) := fun i p hp => by
    by_cases c : i = 2
    · rw [if_pos c] at hp
      exact .inl ⟨c, List.mem_singleton.mp hp⟩
    · rw [if_neg c] at hp
      by_cases c' : i = 3
      · rw [if_pos c'] at hp
        exact .inr ⟨c', List.mem_singleton.mp hp⟩
      · rw [if_neg c'] at hp
        cases hp
  refine ⟨Same.refl _, e, fun p o hp => ?_, fun _ _ _ => rfl, fun i p hp => ?_, fun i j p hp hp' => ?_, ?_, fun i s hi => ?_⟩
  · by_cases m : p = p0 ∨ p = p1
    · rw [if_pos m] at hp
      cases hp
    · rw [if_neg m] at hp
      exact hp
  · rcases hF i p hp with ⟨_, m⟩ | ⟨_, m⟩
    · rw [m]; exact ⟨n0, if_pos (.inl rfl), _, h0.1⟩
    · rw [m]; exact ⟨n1, if_pos (.inr rfl), _, h1.1⟩
  · rcases hF i p hp with ⟨c, m⟩ | ⟨c, m⟩ <;> rcases hF j p hp' with ⟨c', m'⟩ | ⟨c', m'⟩
    · rw [c, c']
    · exact absurd (m.symm.trans m') ne
    · exact absurd (m'.symm.trans m) ne
    · rw [c, c']
  · unfold L2.start
    simp only [List.length_append, List.length_map, List.length_replicate, List.length_cons, List.length_nil]
  · unfold L2.start
    match i with
    | 0 => cases hi; exact ⟨w0, rfl, r0⟩
    | 1 => cases hi; exact ⟨w1, rfl, r1⟩
    | 2 => cases hi; exact ⟨.ref p0, rfl, _, rfl, rfl, h0.1, h0.2⟩
    | 3 => cases hi; exact ⟨.ref p1, rfl, _, rfl, rfl, h1.1, h1.2⟩
    | i + 4 =>
      simp only [List.cons_append, List.nil_append, List.getElem?_cons_succ] at hi
      have : s = .no := List.eq_of_mem_replicate (List.mem_of_getElem? hi)
      subst this
      exact True.intro
theorem def_spGW {x : Str} {st : Stmt} {N ps : List Str} {k : Nat} (D : Def K mg x st ps) (S : FnScope N ps (defScope st)) (hn : 4 = ps.length)
    (h : ∀ (fa : Addr) (cdv : Value) (A : Around) (outer : List Env) (s : Shared) (H : Hp) (E : XK), Room k (A.deeper (envOfC x (defScope st) s.heap.objs.size fa cdv)) →
      ∃ t, PSs (cxOf CX0 P w K mg base N x (defScope st) fa cdv A outer s H E).nox (defBody st) t ∧
        ∀ (x : Int) (fr : List (List Int)) (p0 p1 : Addr) (z : Dct Int) (y : Dct Bool), pre x fr z y → ∀ (B S0 : Hp) (Q : VK), (∀ (G' : List Sl) b z' y', G'[2]? = some (.ow (DA.mk p0 z')) → G'[3]? = some (.ow (DA.mk p1 y')) → (b, z', y') = f x fr z y → RT K B S0 Q b G') →
          At K B S0 (t { nx := fun _ H' => Q .non H', rt := Q }) ([.im x, .im fr, .ow (DA.mk p0 z), .ow (DA.mk p1 y)] ++ List.replicate (N.length - 4) .no)) :
    Cal P w K mg base (k + 1) x ps (spGW K f pre) := by
  obtain ⟨fa, fd, m, Fu, b⟩ := D.ex
  refine ⟨fa, fd, m, Fu.ok S (fun vs H Q E ⟨S, w0, w1, p0, p1, k0, k1, x, fr, z, y, e, _⟩ => by rw [e]; exact hn) fun cdv A outer s H vs Q E hr ⟨S', w0, w1, p0, p1, k0, k1, x, fr, z, y, e, es, r0, r1, h0, h1, ne, n0, n1, hp, q⟩ => ?_, Fu.kp, b⟩
  subst e
  obtain ⟨t, g1, g2⟩ := h fa cdv A outer s H E hr
  refine ⟨t, g1, ?_⟩
  refine g2 x fr p0 p1 z y hp _ S' Q (fun G' b z' y' hz hy' hf S1 σ1 H1 F1 v k1 rv => ?_) S' _ H _ (start_knGW (N := N) es r0 r1 h0 h1 ne n0 n1)
  obtain ⟨u0, _, a0, _, o0, o1, o2⟩ := k1.ow hz
  obtain ⟨u1, _, a1, _, c0, c1, c2⟩ := k1.ow hy'
  have hB : ∀ p o, p ≠ p0 → p ≠ p1 → H p = some o → (if p = p0 ∨ p = p1 then none else H p) = some o := fun p o m m' e => by rw [if_neg (fun c => c.elim m m')]; exact e
  have N0 := (k1.off 2 p0 (by rw [o0]; exact List.mem_singleton.mpr rfl)).1
  have N1 := (k1.off 3 p1 (by rw [c0]; exact List.mem_singleton.mpr rfl)).1
  refine q v S1 H1 a0 a1 k1.s0 k1.sub (fun p o m m' e => k1.keep p o (hB p o m m' e)) (fun p o e => ?_) N0 N1 ⟨o1, ?_⟩ ⟨c1, ?_⟩ ?_
  · by_cases m : p = p0
    · rw [m, N0, n0]
    · by_cases m' : p = p1
      · rw [m', N1, n1]
      · exact k1.clean p o (hB p o m m' e)
  · rw [← hf]; exact o2
  · rw [← hf]; exact c2
  · rw [← hf]; exact rv
end
end GL
namespace GL
open PySem PySem.Spec PyProof.Rows L2
def GwP (k : Nat) (sheet : Int) (free : List (List Int)) (t : Dct Int) (a : Dct Bool) : Prop := ∃ los bs, Frees los bs free ∧ bs ≤ 1000 ∧ TkOk los bs t ∧ a.Ok bs ∧ (0 ≤ sheet ∧ sheet < los.length) ∧ los.length ≤ 60 ∧ bs < k + a.l.length
theorem gwP_zero {sheet : Int} {free : List (List Int)} {t : Dct Int} {a : Dct Bool} : ¬ GwP 0 sheet free t a := fun ⟨los, bs, hF, _, _, ha, hs, _, h⟩ => by
  have h1 := hF.lo _ (ix_mem' hs)
  have := ha.cnt (by omega)
  omega
end GL
namespace GL
open PySem PySem.Spec PyProof.Rows L2
section
variable {K : Fg} {G : List Sl}
theorem el_lcTP {α β τ : Type} [Py α] [Py β] {wi : TI} {g : TG} {te : TE} {tt : TT} {vs : List Nat} {xs : List α} (γ : τ → List Sl) (s0 : τ) (step : τ → α → τ) (f : τ → α → Bool) (e : α → β) (hi : ItG K wi G xs (γ s0)) (hl : xs.length ≤ 1000000)
    (hs : ∀ pre x post, pre ++ x :: post = xs → ∀ s, s = pre.foldl step s0 → ∃ G2 ts, TgG K g x (wipeG (γ s) vs) G2 ts ∧ (∀ t ∈ ts, t ∈ vs) ∧ ∃ G4, EvT K tt G2 (f s x) G4 ∧ (f s x = true → EvX K te G4 (e x) G4) ∧ Bk vs 0 (γ (step s x)) G4 (γ s)) :
    EvL K (tLc wi g tt te vs) G (pickX f e step xs s0).1 (γ (xs.foldl step s0)) :=
  el_lcX (K := K) (wi := wi) (g := g) (tt := tt) (te := te) (vs := vs) (G := G) γ s0 step f (fun _ x => e x) hi hl fun pre x post ex s hs' => by
    obtain ⟨G2, ts, tg, hts, G4, ht, he, bk⟩ := hs pre x post ex s hs'
    refine ⟨G2, ts, tg, hts, G4, G4, ht, he, fun _ => rfl, fun j sl hj => ?_, bk.len⟩
    have := bk.get j sl hj
    rw [Nat.zero_add] at this
    exact this
end
end GL


namespace L21
open PySem PySem.Spec PyProof.Rows L2 GL
def topS (i : Nat) : Stmt := PySem.Challenge.pw_warmove_k21_whole_windows_and_matchings.main.body.getD i (.Pass ⟨0, 0, 0, 0⟩)
abbrev s_written_in : Stmt := topS 1
abbrev s_last_writings : Stmt := topS 3
abbrev s_lack : Stmt := topS 4
abbrev s_bars : Stmt := topS 5
abbrev s_least_left : Stmt := topS 6
abbrev s_plan_for : Stmt := topS 7
abbrev s_left_by : Stmt := topS 9
abbrev s_is_plan : Stmt := topS 10
abbrev s__law_spring : Stmt := topS 12
abbrev s__law_cup : Stmt := topS 13
abbrev s__law_trace : Stmt := topS 14
abbrev s__law_last : Stmt := topS 15
abbrev s__law_gives_way : Stmt := topS 16
abbrev s_law : Stmt := topS 17
structure Tx (K : Fg) (mg : Str → Option Value) : Prop where
  d_written_in : Def K mg "written_in" s_written_in ["trace", "start", "stop"]
  d_last_writings : Def K mg "last_writings" s_last_writings ["n", "trace", "stop"]
  d_lack : Def K mg "lack" s_lack ["lasts", "b", "stop", "t"]
  d_bars : Def K mg "bars" s_bars ["n", "trace", "b", "s", "stop", "t"]
  d_least_left : Def K mg "least_left" s_least_left ["n", "trace", "b", "stop"]
  d_plan_for : Def K mg "plan_for" s_plan_for ["n", "trace", "b", "s", "stop"]
  d_left_by : Def K mg "left_by" s_left_by ["n", "trace", "plan"]
  d_is_plan : Def K mg "is_plan" s_is_plan ["n", "trace", "b", "s", "plan"]
  d__law_spring : Def K mg "_law_spring" s__law_spring ["script", "k"]
  d__law_cup : Def K mg "_law_cup" s__law_cup ["spring", "many"]
  d__law_trace : Def K mg "_law_trace" s__law_trace ["spring", "n", "most"]
  d__law_last : Def K mg "_law_last" s__law_last ["trail", "sheet", "stop"]
  d__law_gives_way : Def K mg "_law_gives_way" s__law_gives_way ["sheet", "free", "taken", "asked"]
  d_law : Def K mg "law" s_law ["script"]
  n_enumerate : mg "enumerate" = none
  n_int : mg "int" = none
  n_len : mg "len" = none
  n_list : mg "list" = none
  n_max : mg "max" = none
  n_min : mg "min" = none
  n_range : mg "range" = none
  n_reversed : mg "reversed" = none
  n_set : mg "set" = none
  n_sorted : mg "sorted" = none
  n_tuple : mg "tuple" = none
end L21
namespace L21
open PySem PySem.Spec PyProof.Rows L2 GL
theorem sc__law_spring : FnScope ["script", "k", "number", "stir", "found", "turn"] ["script", "k"] (defScope s__law_spring) := ⟨rfl, rfl, rfl, by decide +kernel, rfl, by decide +kernel, by decide +kernel⟩
section
variable {P : Program} {w : World} {K : Fg} {mg : Str → Option Value} {base : Heap}
set_option maxHeartbeats 4000000 in
theorem ok__law_spring (T : Tx K mg)  : Cal P w K mg base 1 "_law_spring" ["script", "k"] (spSpring K) := by
  have nd := sc__law_spring.nd
  refine def_spring (k := 0) T.d__law_spring sc__law_spring rfl fun fa cdv A outer s H E hr => ?_
  refine ⟨_, pss_cons (ps_set (i := 2) nd rfl (.inl rfl) (pe_op op_add (pe_op op_mul (pe_int) (pv 1)) (pe_int)))
      (Evl.pss_cut (ps_if (pt_cmpR op_lt (pv 1) (pe_callB call_lenG (by rfl) T.n_len (by decide +kernel) (pa_cons (pv 0) pa_nil)) (nomark _)) (pss_cons (ps_set (i := 2) nd rfl (.inl rfl) (pe_ix (r := rIxL K) ix_list (pv 0) (pv 1) (fun _ _ => rfl)))
      (pss_nil)) (pss_nil))
      (pss_cons (ps_if (pt_cmpR op_eq (pe_op op_mod (pv 2) (pe_int)) (pe_int) (nomark _)) (pss_cons (ps_ret (pe_lst (pa_cons (pe_op op_fdiv (pv 2) (pe_int)) pa_nil)))
      (pss_nil)) (pss_nil))
      (pss_cons (ps_set (i := 3) nd rfl (.inl rfl) (pe_op op_mod (pe_op op_add (pe_op op_add (pe_op op_mul (pe_op op_mod (pv 2) (pe_int)) (pe_int)) (pe_op op_mul (pe_int) (pv 1))) (pe_int)) (pe_int)))
      (pss_cons (ps_set (i := 4) nd rfl (.inl rfl) (pe_int))
      (pss_cons (ps_for PassesOwn.never rfl (pi_range1 (by rfl) T.n_range (pa_cons (pe_int) pa_nil)) (pg_name (i := 5) nd rfl (.inl rfl))
      (pss_cons (ps_set (i := 3) nd rfl (.inl rfl) (pe_op op_mod (pe_op op_add (pe_op op_add (pe_op op_add (pe_op op_mul (pv 3) (pv 3)) (pe_op op_mul (pe_int) (pv 3))) (pe_op op_mul (pe_int) (pv 5))) (pe_int)) (pe_int)))
      (pss_cons (ps_set (i := 4) nd rfl (.inl rfl) (pe_op op_add (pe_op op_mul (pv 4) (pe_int)) (pv 3)))
      (pss_nil))))
      (pss_cons (ps_ret (pe_lst (pa_cons (pv 4) pa_nil)))
      (pss_nil))))))), ?_⟩
  intro script k h0 h1 B S0 Q hret
  show At _ _ _ _ [.im script, .im k, .no, .no, .no, .no]
  refine qg_set 2 (ev_i0 (ev_iC (ev_int) (ev_var (i := 1) rfl) (by exact .inl ⟨by decide, by decide⟩)) (ev_int)) rfl fun number h_number => ?_
  refine q_cut1 [.im script, .im k, .im (if decide (k < (script.l.length : Int)) = true then ix script.l k else number), .no, .no, .no] ?_ ?_
  · refine q_ifc (et_test (ev_b0 (ev_var (i := 1) rfl) (ev_lenS (ev_var (i := 0) rfl)))) (fun hb0 => ?_) (fun hb0 => ?_)
    ·
      refine qg_set 2 (ev_ixS (ev_var (i := 0) rfl) (ev_var (i := 1) rfl) (by simp only [decide_eq_true_eq] at hb0; omega)) rfl fun number1 h_number1 => ?_
      refine q_next ?_
      exact at_mid (.k (.k (.k (.d (.d (.d .n)))))) (by subst_vars; simp only [hb0, if_true, if_false, Bool.false_eq_true])
    ·
      refine q_next ?_
      exact at_mid (.k (.k (.k (.d (.d (.d .n)))))) (by subst_vars; simp only [hb0, if_true, if_false, Bool.false_eq_true])
  refine at_gen 2 rfl fun number2 h_number2 => ?_
  refine q_if (et_test (ev_eq (ev_iC (ev_var (i := 2) rfl) (ev_int) (by decide)) (ev_int))) (fun hb1 => ?_) (fun hb1 => ?_)
  ·
    exact q_retL (el_lst (els_cons (ev_iC (ev_var (i := 2) rfl) (ev_int) (by exact ⟨by decide, by decide⟩)) (els_nil)) (by simp)) (fun S_ σ_ H_ F_ p_ vs_ k1 a_ b_ c_ d_ r_ => hret _ _ S_ σ_ H_ F_ p_ vs_ (k1) a_ b_ c_ d_ r_)
  ·
    refine q_next ?_
    refine qg_set 3 (ev_iC (ev_i0 (ev_i0 (ev_iC (ev_iC (ev_var (i := 2) rfl) (ev_int) (by decide)) (ev_int) (by exact .inr ⟨by decide, by decide⟩)) (ev_iC (ev_int) (ev_var (i := 1) rfl) (by exact .inl ⟨by decide, by decide⟩))) (ev_int)) (ev_int) (by decide)) rfl fun stir h_stir => ?_
    refine qg_set 4 (ev_int) rfl fun found h_found => ?_
    refine qg_inv (fun st_ : Int × Int => [.im script, .im k, .im number2, .im st_.1, .im st_.2, .no]) (fun _ s => 0 ≤ s.1 ∧ s.1 < 2147483549) (stir, found) (it_rng1 (ev_int) (by decide)) (.k (.k (.k (.k (.k (.d .n)))))) (by subst_vars; exact ⟨Int.emod_nonneg _ (by decide), Int.emod_lt_of_pos _ (by decide)⟩) (fun pre0 turn post0 s0 ex0 hs0 Sb0 rb0 => ⟨_, _, tg_name rfl, ?_⟩) (fun s0 hs0 => ?_)
    ·
      obtain ⟨stir_b, found_b⟩ := s0
      show At _ _ _ _ [.im script, .im k, .im number2, .im stir_b, .im found_b, .im turn]
      refine qg_set 3 (ev_iC (ev_i0 (ev_i0 (ev_i0 (ev_iC (ev_var (i := 3) rfl) (ev_var (i := 3) rfl) (by exact .inl ⟨by dsimp only at hs0; omega, by dsimp only at hs0; omega⟩)) (ev_iC (ev_int) (ev_var (i := 3) rfl) (by exact .inl ⟨by decide, by decide⟩))) (ev_iC (ev_int) (ev_var (i := 5) rfl) (by exact .inl ⟨by decide, by decide⟩))) (ev_int)) (ev_int) (by decide)) rfl fun stir1 h_stir1 => ?_
      refine qg_set 4 (ev_i0 (ev_iC (ev_var (i := 4) rfl) (ev_int) (by exact .inr ⟨by decide, by decide⟩)) (ev_var (i := 3) rfl)) rfl fun found1 h_found1 => ?_
      exact q_next (at_mid (.k (.k (.k (.k (.k (.d .n)))))) ⟨(stir1, found1), by rfl, by subst_vars; exact ⟨Int.emod_nonneg _ (by decide), Int.emod_lt_of_pos _ (by decide)⟩⟩)
    ·
      obtain ⟨stir_e, found_e⟩ := s0
      show At _ _ _ _ [.im script, .im k, .im number2, .im stir_e, .im found_e, .no]
      exact q_retL (el_lst (els_cons (ev_var (i := 4) rfl) (els_nil)) (by simp)) (fun S_ σ_ H_ F_ p_ vs_ k1 a_ b_ c_ d_ r_ => hret _ _ S_ σ_ H_ F_ p_ vs_ (k1) a_ b_ c_ d_ r_)
end
theorem sc__law_cup : FnScope ["spring", "many", "digit"] ["spring", "many"] (defScope s__law_cup) := ⟨rfl, rfl, rfl, by decide +kernel, rfl, by decide +kernel, by decide +kernel⟩
section
variable {P : Program} {w : World} {K : Fg} {mg : Str → Option Value} {base : Heap}
set_option maxHeartbeats 4000000 in
theorem ok__law_cup (T : Tx K mg)  : Cal P w K mg base 1 "_law_cup" ["spring", "many"] (spM K (fun (z : Spr) (a : Int × Unit) => lawCup z a.1) (fun z a => 0 < a.1 ∧ a.1 < 1073741824)) := by
  have nd := sc__law_cup.nd
  refine def_spM (k := 0) T.d__law_cup sc__law_cup rfl (fun z a _ => by unfold lawCup; rfl) fun fa cdv A outer s H E hr => ?_
  refine ⟨_, pss_cons (ps_set (i := 2) nd rfl (.inl rfl) (pe_op op_mod (pe_ix (r := rIxL K) ix_list (pv 0) (pe_int) (fun _ _ => rfl)) (pv 1)))
      (pss_cons (ps_asg (pe_op op_fdiv (pe_ix (r := rIxL K) ix_list (pv 0) (pe_int) (fun _ _ => rfl)) (pv 1)) (pg_sub (pv 0) pe_int set_list))
      (pss_cons (ps_ret (pv 2))
      (pss_nil))), ?_⟩
  rintro spring ⟨many, _⟩ hpre B S0 Q hret
  show At _ _ _ _ [.ow spring, .im many, .no]
  obtain ⟨h0, h1⟩ := hpre
  refine qg_set 2 (ev_iC (ev_spr0 (i := 0) rfl) (ev_var (i := 1) rfl) (by exact h0)) rfl fun digit h_digit => ?_
  refine q_sprset (i := 0) (ev_iC (ev_spr0 (i := 0) rfl) (ev_var (i := 1) rfl) (by exact ⟨h0, h1⟩)) rfl ?_
  refine at_genO 0 rfl fun spring1 h_spring1 => ?_
  show At _ _ _ _ [.ow spring1, .im many, .im digit]
  exact q_ret (ev_var (i := 2) rfl) (hret _ _ _ rfl (by subst_vars; unfold lawCup; rfl))
end
theorem sc__law_trace : FnScope ["spring", "n", "most", "often", "found", "beat", "row", "turn", "sheet", "k"] ["spring", "n", "most"] (defScope s__law_trace) := ⟨rfl, rfl, rfl, by decide +kernel, rfl, by decide +kernel, by decide +kernel⟩
section
variable {P : Program} {w : World} {K : Fg} {mg : Str → Option Value} {base : Heap}
set_option maxHeartbeats 4000000 in
theorem ok__law_trace (T : Tx K mg) (c__law_cup : Cal P w K mg base 1 "_law_cup" ["spring", "many"] (spM K (fun (z : Spr) (a : Int × Unit) => lawCup z a.1) (fun z a => 0 < a.1 ∧ a.1 < 1073741824))) : Cal P w K mg base 2 "_law_trace" ["spring", "n", "most"] (spRS K (fun (a : Int × Int × Unit) (y : (List (Tp Int))) => TrLaw a.1 a.2.1 y) (fun a => 1 ≤ a.1 ∧ a.1 ≤ 12 ∧ 0 ≤ a.2.1 ∧ a.2.1 ≤ 1000)) := by
  have nd := sc__law_trace.nd
  refine def_spR (k := 1) T.d__law_trace sc__law_trace rfl fun fa cdv A outer s H E hr => ?_
  refine ⟨_, pss_cons (ps_setLc (i := 3) (own := [("k", 9)]) (g := gName 9) rfl nd rfl rfl (sw_true rfl rfl rfl (by decide +kernel)) (pi_range1 (by rfl) T.n_range (pa_cons (pe_op op_add (pe_int) (pe_cal c__law_cup hr (by decide) (by rfl) (pa_cons (pv 0) (pa_cons (pe_int) pa_nil)))) pa_nil)) (blkOk_by (N := ["spring", "n", "most", "often", "found", "beat", "row", "turn", "sheet", "k"]) (sc := defScope s__law_trace) (by decide +kernel)) (fun _ _ _ _ _ => pg_name (i := 9) nd rfl (.inl rfl) (.inr rfl)) (fun _ _ _ _ _ => pts_nil) (fun _ _ _ _ _ => pe_cal c__law_cup hr (by decide) (by rfl) (pa_cons (pv 0) (pa_cons (pv 1) pa_nil))))
      (pss_cons (ps_set (i := 4) nd rfl (.inl rfl) (pe_lst (pa_nil)))
      (pss_cons (ps_for PassesOwn.never rfl (pi_range1 (by rfl) T.n_range (pa_cons (pe_cal c__law_cup hr (by decide) (by rfl) (pa_cons (pv 0) (pa_cons (pe_op op_add (pv 2) (pe_int)) pa_nil))) pa_nil)) (pg_name (i := 5) nd rfl (.inl rfl))
      (pss_cons (ps_set (i := 6) nd rfl (.inl rfl) pe_dnewK)
      (pss_cons (ps_for PassesOwn.never rfl (pi_range1 (by rfl) T.n_range (pa_cons (pe_ix (r := rIxL K) ix_list (pe_lst (pa_cons (pe_int) (pa_cons (pe_int) (pa_cons (pe_int) (pa_cons (pe_int) (pa_cons (pe_int) (pa_cons (pv 1) pa_nil))))))) (pe_cal c__law_cup hr (by decide) (by rfl) (pa_cons (pv 0) (pa_cons (pe_int) pa_nil))) (fun _ _ => rfl)) pa_nil)) (pg_name (i := 7) nd rfl (.inl rfl))
      (pss_cons (ps_set (i := 8) nd rfl (.inl rfl) (pe_cal c__law_cup hr (by decide) (by rfl) (pa_cons (pv 0) (pa_cons (pv 1) pa_nil))))
      (pss_cons (ps_dput (hu_of hr) (pv 6) (pe_ix (r := rIxL K) ix_list (pe_lst (pa_cons (pv 8) (pa_cons (pe_ix (r := rIxL K) ix_list (pv 3) (pe_op op_mod (pv 8) (pe_callB call_lenG (by rfl) T.n_len (by decide +kernel) (pa_cons (pv 3) pa_nil))) (fun _ _ => rfl)) pa_nil))) (pe_callTy call_intG (by rfl) T.n_int (by decide +kernel) (pa_cons (pe_cmpR op_gt (pe_cal c__law_cup hr (by decide) (by rfl) (pa_cons (pv 0) (pa_cons (pe_int) pa_nil))) (pe_int) (nomark _)) pa_nil)) (fun _ _ => rfl)) (pe_bl) rfl)
      (pss_nil))))
      (pss_cons (ps_expr (pe_bm PySem.F.plainAttrs_list PySem.F.slot_list_append PySem.F.type_list_append mt_append (pv 4) (pa_cons (pe_callTy call_tupG (by rfl) T.n_tuple (by decide +kernel) (pa_cons (pe_callB (call_sortDI rfl) (by rfl) T.n_sorted (by decide +kernel) (pa_cons (pv 6) pa_nil)) pa_nil)) pa_nil)))
      (pss_nil)))))
      (pss_cons (ps_ret (pv 4))
      (pss_nil)))), ?_⟩
  rintro spring ⟨n, most, _⟩ hpre B S0 Q hret
  show At _ _ _ _ [.ow spring, .im n, .im most, .no, .no, .no, .no, .no, .no, .no]
  obtain ⟨n0, n1, m0, m1⟩ := hpre
  dsimp only at n0 n1 m0 m1
  refine qg_set 3 (EvL.ev (el_lcE (fun st_ : Spr => [.ow st_, .im n, .im most, .no, .no, .no, .no, .no, .no, .no]) _ (fun st_ x => (lawCup st_ (n, ()).1).2) (fun st_ x => (lawCup st_ (n, ()).1).1) (it_rng1 (ev_i0 (ev_int) (ev_callM (i := 0) rfl (ea_cons (ev_int) (ea_nil)) rfl (by refine ⟨?_, ?_⟩ <;> first | decide | omega | (dsimp only; omega)))) (by have := cup_bd spring (m := 3) (by decide); dsimp only; omega)) (by rw [len_rng]; have := cup_bd spring (m := 3) (by decide); dsimp only; omega) (fun x st_ hm_x => ⟨_, _, tg_name rfl, (by decide), _, ev_callM (i := 0) rfl (ea_cons (ev_var (i := 1) rfl) (ea_nil)) rfl (by refine ⟨?_, ?_⟩ <;> first | decide | omega | (dsimp only; omega)), .a (by decide) (.b rfl (.b rfl (.b rfl (.b rfl (.b rfl (.b rfl (.b rfl (.b rfl (.b rfl (.n))))))))))⟩))) rfl fun often h_often => ?_
  refine at_genO 0 rfl fun spring1 h_spring1 => ?_
  show At _ _ _ _ [.ow spring1, .im n, .im most, .im often, .no, .no, .no, .no, .no, .no]
  have hof : ∀ y ∈ often, 0 ≤ y ∧ y < n := by rw [h_often]; exact mapX_all _ (fun s x => cup_bd s (by omega)) _ _
  have hol : 1 ≤ often.length ∧ often.length ≤ 3 := by
    rw [h_often, mapX_len, len_rng]
    have := cup_bd spring (m := 3) (by decide)
    dsimp only
    omega
  have ha1 : spring1.a = spring.a := by
    rw [h_spring1]
    exact mapX_inv (fun s : Spr => s.a = spring.a) (fun s x h => by rw [cup_a]; exact h) _ _ (cup_a _ _)
  clear h_often h_spring1
  refine qg_own 4 (el_lst (els_nil (α := (Tp Int))) (by simp)) rfl fun found h_found => ?_
  refine qg_inv (fun st_ : Spr × (List (Tp Int)) => [.ow st_.1, .im n, .im most, .im often, .ow st_.2, .no, .no, .no, .no, .no]) (fun pre st => st.1.a = spring.a ∧ st.2.length = pre.length ∧ ∀ t ∈ st.2, RowOk n t) (_, found) (it_rng1 (ev_callM (i := 0) rfl (ea_cons (ev_i0 (ev_var (i := 2) rfl) (ev_int)) (ea_nil)) rfl (by refine ⟨?_, ?_⟩ <;> first | decide | omega | (dsimp only; omega))) (by have := cup_bd spring1 (m := most + 1) (by omega); dsimp only; omega)) (.k (.k (.k (.k (.k (.d (.d (.d (.d (.d .n)))))))))) (by refine ⟨(cup_a _ _).trans ha1, ?_, ?_⟩ <;> rw [h_found] <;> simp) (fun pre0 beat post0 s0 ex0 hs0 Sb0 rb0 => ⟨_, _, tg_name rfl, ?_⟩) (fun s0 hs0 => ?_)
  ·
    obtain ⟨spring_b, found_b⟩ := s0
    show At _ _ _ _ [.ow spring_b, .im n, .im most, .im often, .ow found_b, .im beat, .no, .no, .no, .no]
    obtain ⟨hsa, hfl, hfr⟩ := hs0
    dsimp only at hsa hfl hfr ex0
    obtain ⟨_, hbp, _, hbm⟩ := rng_pre ex0
    have hcb := cup_bd spring1 (m := most + 1) (by omega)
    refine q_dnew Bool (i := 6) rfl ?_
    refine at_genO 6 rfl fun row h_row => ?_
    show At _ _ _ _ [.ow spring_b, .im n, .im most, .im often, .ow found_b, .im beat, .ow row, .no, .no, .no]
    refine qg_inv (fun st_ : Spr × (Dct Bool) => [.ow st_.1, .im n, .im most, .im often, .ow found_b, .im beat, .ow st_.2, .no, .no, .no]) (fun pre st => st.1.a = spring_b.a ∧ st.2.Ok n) (_, row) (it_rng1 (ev_ix (EvL.ev (el_lst (els_cons (ev_int) (els_cons (ev_int) (els_cons (ev_int) (els_cons (ev_int) (els_cons (ev_int) (els_cons (ev_var (i := 1) rfl) (els_nil))))))) (by simp))) (ev_callM (i := 0) rfl (ea_cons (ev_int) (ea_nil)) rfl (by refine ⟨?_, ?_⟩ <;> first | decide | omega | (dsimp only; omega))) (by exact ix_6 (cup_bd _ (by decide)))) (by have := tr_many (n := n) (z := spring_b) n0 n1; dsimp only; omega)) (.k (.k (.k (.k (.k (.k (.k (.d (.d (.d .n)))))))))) (by exact ⟨cup_a _ _, by rw [h_row]; exact Dct.Ok.emp⟩) (fun pre1 turn post1 s1 ex1 hs1 Sb1 rb1 => ⟨_, _, tg_name rfl, ?_⟩) (fun s1 hs1 => ?_)
    ·
      obtain ⟨spring_b1, row_b⟩ := s1
      show At _ _ _ _ [.ow spring_b1, .im n, .im most, .im often, .ow found_b, .im beat, .ow row_b, .im turn, .no, .no]
      obtain ⟨hsa2, hro⟩ := hs1
      dsimp only at hsa2 hro
      refine qg_set 8 (ev_callM (i := 0) rfl (ea_cons (ev_var (i := 1) rfl) (ea_nil)) rfl (by refine ⟨?_, ?_⟩ <;> first | decide | omega | (dsimp only; omega))) rfl fun sheet h_sheet => ?_
      refine at_genO 0 rfl fun spring2 h_spring2 => ?_
      obtain ⟨d, e_d, l_d, u_d, a_spring2⟩ := cup_ex' h_spring2 (by first | decide | omega | (dsimp only; omega))
      rw [e_d] at h_sheet
      clear e_d h_spring2; (try dsimp only at u_d)
      show At _ _ _ _ [.ow spring2, .im n, .im most, .im often, .ow found_b, .im beat, .ow row_b, .im turn, .im sheet, .no]
      refine qg_dput 6 (ev_bl) (ev_ix (EvL.ev (el_lst (els_cons (ev_var (i := 8) rfl) (els_cons (ev_ix (ev_var (i := 3) rfl) (ev_iC (ev_var (i := 8) rfl) (ev_len (EvX.c (ev_var (i := 3) rfl))) (by first | decide | (show (0 : Int) < _; omega))) (by exact ⟨Int.emod_nonneg _ (by omega), Int.emod_lt_of_pos _ (by omega)⟩)) (els_nil))) (by simp))) (ev_intB (ev_b0 (ev_callM (i := 0) rfl (ea_cons (ev_int) (ea_nil)) rfl (by refine ⟨?_, ?_⟩ <;> first | decide | omega | (dsimp only; omega))) (ev_int))) (by exact ix_2 (by split <;> omega))) rfl rfl (by exact (hro.mono (by omega)).small) fun row1 h_row1 => ?_
      refine at_genO 0 rfl fun spring3 h_spring3 => ?_
      show At _ _ _ _ [.ow spring3, .im n, .im most, .im often, .ow found_b, .im beat, .ow row1, .im turn, .im sheet, .no]
      exact q_next (at_mid (.k (.k (.k (.k (.k (.k (.k (.d (.d (.d .n)))))))))) ⟨(spring3, row1), by rfl, by rw [h_row1]; exact ⟨by rw [h_spring3, cup_a, a_spring2]; exact hsa2, hro.put _ (tr_key (by omega) hof (by omega))⟩⟩)
    ·
      obtain ⟨spring_e, row_e⟩ := s1
      show At _ _ _ _ [.ow spring_e, .im n, .im most, .im often, .ow found_b, .im beat, .ow row_e, .no, .no, .no]
      obtain ⟨hsa2, hro⟩ := hs1
      dsimp only at hsa2 hro
      refine qg_app 4 rfl (ev_tup (EvL.c (el_sortedD (ed_own (i := 6) rfl) (by have := (hro.mono (m' := ((60 : Nat) : Int)) (by omega)).len; omega)))) rfl (by exact lt_line (by omega)) fun found1 h_found1 => ?_
      exact q_next (at_mid (.k (.k (.k (.k (.k (.d (.d (.d (.d (.d .n)))))))))) ⟨(spring_e, found1), by rfl, by rw [h_found1]; exact ⟨hsa2.trans hsa, by simp [hfl], fun t ht => by rcases List.mem_append.mp ht with q | q; exact hfr t q; rw [List.mem_singleton.mp q]; exact row_ok hro⟩⟩)
  ·
    obtain ⟨spring_e1, found_e⟩ := s0
    show At _ _ _ _ [.ow spring_e1, .im n, .im most, .im often, .ow found_e, .no, .no, .no, .no, .no]
    obtain ⟨hsa, hfl, hfr⟩ := hs0
    dsimp only at hsa hfl hfr
    have hcb := cup_bd spring1 (m := most + 1) (by omega)
    refine at_relL (i := 4) rfl ?_
    exact q_ret (ev_var (i := 4) rfl) (hret _ _ _ rfl (by exact hsa) (by exact ⟨by rw [hfl, len_rng]; dsimp only; omega, hfr⟩))
end
theorem sc_written_in : FnScope ["trace", "start", "stop", "found", "tick", "sheet"] ["trace", "start", "stop"] (defScope s_written_in) := ⟨rfl, rfl, rfl, by decide +kernel, rfl, by decide +kernel, by decide +kernel⟩
section
variable {P : Program} {w : World} {K : Fg} {mg : Str → Option Value} {base : Heap}
set_option maxHeartbeats 4000000 in
theorem ok_written_in (T : Tx K mg)  : Cal P w K mg base 1 "written_in" ["trace", "start", "stop"] (spF K (fun a : (List (Tp Int)) × Int × Int × Unit => writtenIn a.1 a.2.1 a.2.2.1) (fun a => TrOk a.1 ∧ 0 ≤ a.2.1 ∧ a.2.1 ≤ 100000 ∧ -1000 ≤ a.2.2.1 ∧ a.2.2.1 ≤ 1000000000000000000000000000000000000000000000000000000000000)) := by
  have nd := sc_written_in.nd
  refine def_spF (k := 0) T.d_written_in sc_written_in rfl fun fa cdv A outer s H E hr => ?_
  refine ⟨_, pss_cons (ps_set (i := 3) nd rfl (.inl rfl) pe_dnewK)
      (pss_cons (ps_for PassesOwn.never rfl (pi_range2 (by rfl) T.n_range (pa_cons (pv 1) (pa_cons (pe_callB (call_minG rfl) (by rfl) T.n_min (by decide +kernel) (pa_cons (pv 2) (pa_cons (pe_callB call_lenG (by rfl) T.n_len (by decide +kernel) (pa_cons (pv 0) pa_nil)) pa_nil))) pa_nil))) (pg_name (i := 4) nd rfl (.inl rfl))
      (pss_cons (ps_for PassesOwn.never rfl (pi_tup (pe_ix (r := rIxL K) ix_list (pv 0) (pv 4) (fun _ _ => rfl))) (pg_name (i := 5) nd rfl (.inl rfl))
      (pss_cons (ps_dput (hu_of hr) (pv 3) (pv 5) (pv 4) rfl)
      (pss_nil)))
      (pss_nil)))
      (pss_cons (ps_ret (pv 3))
      (pss_nil))), ?_⟩
  rintro ⟨trace, start, stop, _⟩ hpre B S0 Q hret
  show At _ _ _ _ [.im trace, .im start, .im stop, .no, .no, .no]
  obtain ⟨ht, h0, h1, h2, h3⟩ := hpre
  have hl := ht.1
  refine q_dnew Int (i := 3) rfl ?_
  refine at_genO 3 rfl fun found h_found => ?_
  refine qg_fold (fun st_ : (Dct Int) => [.im trace, .im start, .im stop, .ow st_, .no, .no]) (writtenStep trace) found (it_rng2 (ev_var (i := 1) rfl) (ev_min (ev_var (i := 2) rfl) (ev_len (EvX.c (ev_var (i := 0) rfl)))) (by dsimp only at *; omega)) (.k (.k (.k (.k (.d (.d .n)))))) (fun pre0 tick post0 s0 ex0 hs0 Sb0 rb0 => ⟨_, _, tg_name rfl, ?_⟩) (fun s0 hs0 => ?_)
  ·
    show At _ _ _ _ [.im trace, .im start, .im stop, .ow s0, .im tick, .no]
    refine qg_fold (fun st_ : (Dct Int) => [.im trace, .im start, .im stop, .ow st_, .im tick, .no]) (fun f x => f.put x tick) s0 (it_tup (ev_ix (ev_var (i := 0) rfl) (ev_var (i := 4) rfl) (by exact rng_at h0 ex0))) (.k (.k (.k (.k (.k (.d .n)))))) (fun pre1 sheet post1 s1 ex1 hs1 Sb1 rb1 => ⟨_, _, tg_name rfl, ?_⟩) (fun s1 hs1 => ?_)
    ·
      show At _ _ _ _ [.im trace, .im start, .im stop, .ow s1, .im tick, .im sheet]
      refine qg_dput 3 (ev_var (i := 4) rfl) (ev_var (i := 5) rfl) rfl rfl (by exact wr_size ht h0 h_found ex0 hs0 ex1 hs1) fun found1 h_found1 => ?_
      exact q_next (at_mid (.k (.k (.k (.k (.k (.d .n)))))) (by subst_vars; rfl))
    ·
      show At _ _ _ _ [.im trace, .im start, .im stop, .ow s1, .im tick, .no]
      exact q_next (at_mid (.k (.k (.k (.k (.d (.d .n)))))) (by subst_vars; rfl))
  ·
    show At _ _ _ _ [.im trace, .im start, .im stop, .ow s0, .no, .no]
    refine at_relD (i := 3) rfl ?_
    exact q_ret (ev_var (i := 3) rfl) (hret _ _ (by subst_vars; rfl))
end
theorem sc_last_writings : FnScope ["n", "trace", "stop", "last", "sheet"] ["n", "trace", "stop"] (defScope s_last_writings) := ⟨rfl, rfl, rfl, by decide +kernel, rfl, by decide +kernel, by decide +kernel⟩
section
variable {P : Program} {w : World} {K : Fg} {mg : Str → Option Value} {base : Heap}
set_option maxHeartbeats 4000000 in
theorem ok_last_writings (T : Tx K mg) (c_written_in : Cal P w K mg base 1 "written_in" ["trace", "start", "stop"] (spF K (fun a : (List (Tp Int)) × Int × Int × Unit => writtenIn a.1 a.2.1 a.2.2.1) (fun a => TrOk a.1 ∧ 0 ≤ a.2.1 ∧ a.2.1 ≤ 100000 ∧ -1000 ≤ a.2.2.1 ∧ a.2.2.1 ≤ 1000000000000000000000000000000000000000000000000000000000000))) : Cal P w K mg base 2 "last_writings" ["n", "trace", "stop"] (spF K (fun a : Int × (List (Tp Int)) × Int × Unit => lastsM a.1 a.2.1 a.2.2.1) (fun a => 0 ≤ a.1 ∧ a.1 ≤ 1000 ∧ TrOk a.2.1 ∧ 0 ≤ a.2.2.1 ∧ a.2.2.1 ≤ 100000)) := by
  have nd := sc_last_writings.nd
  refine def_spF (k := 1) T.d_last_writings sc_last_writings rfl fun fa cdv A outer s H E hr => ?_
  refine ⟨_, pss_cons (ps_set (i := 3) nd rfl (.inr rfl) (pe_cal c_written_in hr (by decide) (by rfl) (pa_cons (pv 1) (pa_cons (pe_int) (pa_cons (pv 2) pa_nil)))))
      (pss_cons (ps_ret (pe_lc (own := [("sheet", 4)]) (g := gName 4) (by rfl) nd (pi_range1 (by rfl) T.n_range (pa_cons (pv 0) pa_nil)) (blkOk_by (N := ["n", "trace", "stop", "last", "sheet"]) (sc := defScope s_last_writings) (by decide +kernel)) (fun _ _ _ _ _ => pg_name (i := 4) nd rfl (.inl rfl) (.inr rfl)) (fun _ _ _ _ _ => pts_nil) (fun _ _ _ _ _ => pe_dget2 (hu_of hr) (pv 3) (pv 4) (pe_un un_neg (pe_int)) ⟨rfl, rfl, rfl, rfl⟩)))
      (pss_nil)), ?_⟩
  rintro ⟨n, trace, stop, _⟩ hpre B S0 Q hret
  show At _ _ _ _ [.im n, .im trace, .im stop, .no, .no]
  obtain ⟨n0, n1, tr, s0, s1⟩ := hpre
  dsimp only at n0 n1 tr s0 s1
  refine qg_set 3 (ev_call (ea_cons (ev_var (i := 1) rfl) (ea_cons (ev_int) (ea_cons (ev_var (i := 2) rfl) (ea_nil)))) (by exact ⟨tr, by simp, by simp, by dsimp only; omega, by dsimp only; omega⟩)) rfl fun last h_last => ?_
  exact q_ret (EvL.ev (el_lcM _ (it_rng1 (ev_var (i := 0) rfl) (by omega)) (by rw [len_rng]; omega) rfl (fun x hm_x => ⟨_, _, tg_name rfl, (by decide), ev_dget2 (EvX.d (ev_var (i := 3) rfl)) (ev_var (i := 4) rfl) (ev_neg (ev_int))⟩))) (hret _ _ (by subst_vars; exact lasts_ret))
end
theorem sc_lack : FnScope ["lasts", "b", "stop", "t", "last"] ["lasts", "b", "stop", "t"] (defScope s_lack) := ⟨rfl, rfl, rfl, by decide +kernel, rfl, by decide +kernel, by decide +kernel⟩
section
variable {P : Program} {w : World} {K : Fg} {mg : Str → Option Value} {base : Heap}
set_option maxHeartbeats 4000000 in
theorem ok_lack (T : Tx K mg)  : Cal P w K mg base 1 "lack" ["lasts", "b", "stop", "t"] (spF K (fun a : (List Int) × Int × Int × Int × Unit => lackM a.1 a.2.1 a.2.2.1 a.2.2.2.1) (fun a => a.1.length ≤ 1000000 ∧ 0 ≤ a.2.1 ∧ a.2.1 ≤ 1000)) := by
  have nd := sc_lack.nd
  refine def_spF (k := 0) T.d_lack sc_lack rfl fun fa cdv A outer s H E hr => ?_
  refine ⟨_, pss_cons (ps_ret (pe_op op_sub (pe_callB call_lenG (by rfl) T.n_len (by decide +kernel) (pa_cons (pe_lc (own := [("last", 4)]) (g := gName 4) (by rfl) nd (pi_list (pv 0)) (blkOk_by (N := ["lasts", "b", "stop", "t", "last"]) (sc := defScope s_lack) (by decide +kernel)) (fun _ _ _ _ _ => pg_name (i := 4) nd rfl (.inl rfl) (.inr rfl)) (fun _ _ _ _ _ => pts_one (pt_cmpR op_ge (pv 4) (pv 3) (nomark _))) (fun _ _ _ _ _ => pv 4)) pa_nil)) (pe_op op_mul (pv 1) (pe_op op_sub (pe_op op_sub (pv 2) (pv 3)) (pe_int)))))
      (pss_nil), ?_⟩
  rintro ⟨lasts, b, stop, t, _⟩ hpre B S0 Q hret
  show At _ _ _ _ [.im lasts, .im b, .im stop, .im t, .no]
  obtain ⟨l0, b0, b1⟩ := hpre
  dsimp only at l0 b0 b1
  exact q_ret (ev_i0 (ev_len (EvL.c (el_lcF _ _ (it_list (ev_var (i := 0) rfl)) (by exact l0) rfl (fun x hm_x => ⟨_, _, tg_name rfl, (by decide), et_test (ev_b0 (ev_var (i := 4) rfl) (ev_var (i := 3) rfl)), fun hf_x => ev_var (i := 4) rfl⟩)))) (ev_iC (ev_var (i := 1) rfl) (ev_i0 (ev_i0 (ev_var (i := 2) rfl) (ev_var (i := 3) rfl)) (ev_int)) (by exact .inl ⟨by omega, by omega⟩))) (hret _ _ (by exact lack_ret))
end
theorem sc_bars : FnScope ["n", "trace", "b", "s", "stop", "t"] ["n", "trace", "b", "s", "stop", "t"] (defScope s_bars) := ⟨rfl, rfl, rfl, by decide +kernel, rfl, by decide +kernel, by decide +kernel⟩
section
variable {P : Program} {w : World} {K : Fg} {mg : Str → Option Value} {base : Heap}
set_option maxHeartbeats 4000000 in
theorem ok_bars (T : Tx K mg) (c_lack : Cal P w K mg base 1 "lack" ["lasts", "b", "stop", "t"] (spF K (fun a : (List Int) × Int × Int × Int × Unit => lackM a.1 a.2.1 a.2.2.1 a.2.2.2.1) (fun a => a.1.length ≤ 1000000 ∧ 0 ≤ a.2.1 ∧ a.2.1 ≤ 1000))) (c_last_writings : Cal P w K mg base 2 "last_writings" ["n", "trace", "stop"] (spF K (fun a : Int × (List (Tp Int)) × Int × Unit => lastsM a.1 a.2.1 a.2.2.1) (fun a => 0 ≤ a.1 ∧ a.1 ≤ 1000 ∧ TrOk a.2.1 ∧ 0 ≤ a.2.2.1 ∧ a.2.2.1 ≤ 100000))) : Cal P w K mg base 3 "bars" ["n", "trace", "b", "s", "stop", "t"] (spF K (fun a : Int × (List (Tp Int)) × Int × Int × Int × Int × Unit => barsM a.1 a.2.1 a.2.2.1 a.2.2.2.1 a.2.2.2.2.1 a.2.2.2.2.2.1) (fun a => -5 ≤ a.2.2.2.2.1 ∧ a.1 ≤ 1000 ∧ 0 ≤ a.1 ∧ TrOk a.2.1 ∧ 0 ≤ a.2.2.1 ∧ a.2.2.1 ≤ 1000 ∧ a.2.2.2.2.1 ≤ 100000)) := by
  have nd := sc_bars.nd
  refine def_spF (k := 2) T.d_bars sc_bars rfl fun fa cdv A outer s H E hr => ?_
  refine ⟨_, pss_cons (ps_if (pt_not (pt_chain op_le op_lt (pe_un un_neg (pe_int)) (pv 5) (pv 4))) (pss_cons (ps_ret (pe_bl))
      (pss_nil)) (pss_nil))
      (pss_cons (ps_ret (pe_cmpR op_gt (pe_cal c_lack hr (by decide) (by rfl) (pa_cons (pe_cal c_last_writings hr (by decide) (by rfl) (pa_cons (pv 0) (pa_cons (pv 1) (pa_cons (pv 4) pa_nil)))) (pa_cons (pv 2) (pa_cons (pv 4) (pa_cons (pv 5) pa_nil))))) (pv 3) (nomark _)))
      (pss_nil)), ?_⟩
  rintro ⟨n, trace, b, s, stop, t, _⟩ hpre B S0 Q hret
  show At _ _ _ _ [.im n, .im trace, .im b, .im s, .im stop, .im t]
  obtain ⟨s0, n1, n0, tr, b0, b1, s1⟩ := hpre
  dsimp only at n0 n1 tr b0 b1 s0 s1
  refine q_if (et_not (et_test (ev_chain (ev_neg (ev_int)) (ev_var (i := 5) rfl) (ev_var (i := 4) rfl)))) (fun hb0 => ?_) (fun hb0 => ?_)
  ·
    exact q_ret (ev_bl) (hret _ _ (by dsimp only; unfold barsM; rw [if_neg (by simp at hb0; omega)]))
  ·
    refine q_next ?_
    exact q_ret (ev_b0 (ev_call (ea_cons (ev_call (ea_cons (ev_var (i := 0) rfl) (ea_cons (ev_var (i := 1) rfl) (ea_cons (ev_var (i := 4) rfl) (ea_nil)))) (by simp at hb0; exact ⟨n0, n1, tr, by dsimp only; omega, s1⟩)) (ea_cons (ev_var (i := 2) rfl) (ea_cons (ev_var (i := 4) rfl) (ea_cons (ev_var (i := 5) rfl) (ea_nil))))) (by exact ⟨by dsimp only; rw [len_lasts]; omega, b0, b1⟩)) (ev_var (i := 3) rfl)) (hret _ _ (by dsimp only; unfold barsM; rw [if_pos (by simp at hb0; omega)]))
end
theorem sc_least_left : FnScope ["n", "trace", "b", "stop", "lasts", "least", "found", "t"] ["n", "trace", "b", "stop"] (defScope s_least_left) := ⟨rfl, rfl, rfl, by decide +kernel, rfl, by decide +kernel, by decide +kernel⟩
section
variable {P : Program} {w : World} {K : Fg} {mg : Str → Option Value} {base : Heap}
set_option maxHeartbeats 4000000 in
theorem ok_least_left (T : Tx K mg) (c_lack : Cal P w K mg base 1 "lack" ["lasts", "b", "stop", "t"] (spF K (fun a : (List Int) × Int × Int × Int × Unit => lackM a.1 a.2.1 a.2.2.1 a.2.2.2.1) (fun a => a.1.length ≤ 1000000 ∧ 0 ≤ a.2.1 ∧ a.2.1 ≤ 1000))) (c_last_writings : Cal P w K mg base 2 "last_writings" ["n", "trace", "stop"] (spF K (fun a : Int × (List (Tp Int)) × Int × Unit => lastsM a.1 a.2.1 a.2.2.1) (fun a => 0 ≤ a.1 ∧ a.1 ≤ 1000 ∧ TrOk a.2.1 ∧ 0 ≤ a.2.2.1 ∧ a.2.2.1 ≤ 100000))) : Cal P w K mg base 3 "least_left" ["n", "trace", "b", "stop"] (spF K (fun a : Int × (List (Tp Int)) × Int × Int × Unit => leastM a.1 a.2.1 a.2.2.1 a.2.2.2.1) (fun a => 0 ≤ a.1 ∧ a.1 ≤ 60 ∧ TrOk a.2.1 ∧ 0 ≤ a.2.2.1 ∧ a.2.2.1 ≤ 1000 ∧ 0 ≤ a.2.2.2.1 ∧ a.2.2.2.1 ≤ 100000)) := by
  have nd := sc_least_left.nd
  refine def_spF (k := 2) T.d_least_left sc_least_left rfl fun fa cdv A outer s H E hr => ?_
  refine ⟨_, pss_cons (ps_set (i := 4) nd rfl (.inl rfl) (pe_cal c_last_writings hr (by decide) (by rfl) (pa_cons (pv 0) (pa_cons (pv 1) (pa_cons (pv 3) pa_nil)))))
      (pss_cons (ps_set (i := 5) nd rfl (.inl rfl) (pe_int))
      (pss_cons (ps_set (i := 6) nd rfl (.inl rfl) (pe_non))
      (pss_cons (ps_for PassesOwn.never rfl (pi_list (pe_sortSet rfl (by rfl) T.n_sorted (by rfl) T.n_set (pv 4))) (pg_name (i := 7) nd rfl (.inl rfl))
      (Evl.pss_cut (ps_if (PW.pt (pw_and (pt_cmpR op_lt (pv 7) (pv 3) (nomark _)) (pw_and1 (pt_cmpR op_gt (pe_cal c_lack hr (by decide) (by rfl) (pa_cons (pv 4) (pa_cons (pv 2) (pa_cons (pv 3) (pa_cons (pv 7) pa_nil))))) (pv 5) (nomark _))))) (pss_cons (ps_set (i := 5) nd rfl (.inl rfl) (pe_cal c_lack hr (by decide) (by rfl) (pa_cons (pv 4) (pa_cons (pv 2) (pa_cons (pv 3) (pa_cons (pv 7) pa_nil))))))
      (pss_cons (ps_set (i := 6) nd rfl (.inl rfl) (pv 7))
      (pss_nil))) (pss_nil))
      (pss_nil)))
      (pss_cons (ps_ret (pe_tup (pa_cons (pv 5) (pa_cons (pv 6) pa_nil))))
      (pss_nil))))), ?_⟩
  rintro ⟨n, trace, b, stop, _⟩ hpre B S0 Q hret
  show At _ _ _ _ [.im n, .im trace, .im b, .im stop, .no, .no, .no, .no]
  obtain ⟨n0, n1, tr, b0, b1, s0, s1⟩ := hpre
  dsimp only at n0 n1 tr b0 b1 s0 s1
  refine qg_set 4 (ev_call (ea_cons (ev_var (i := 0) rfl) (ea_cons (ev_var (i := 1) rfl) (ea_cons (ev_var (i := 3) rfl) (ea_nil)))) (by ((try dsimp only) <;> (repeat' (first | assumption | omega | refine And.intro ?_ ?_)) <;> first | trivial | assumption | omega | decide | simp))) rfl fun lasts h_lasts => ?_
  have hl : lasts.length ≤ 60 := by rw [h_lasts]; dsimp only; rw [len_lasts]; omega
  refine qg_set 5 (ev_int) rfl fun least h_least => ?_
  refine qg_set 6 (ev_none (α := Int)) rfl fun found h_found => ?_
  refine qg_fold (fun st_ : Int × (Option Int) => [.im n, .im trace, .im b, .im stop, .im lasts, .im st_.1, .im st_.2, .no]) (lsStep lasts b stop) (least, found) (it_list (EvL.ev (el_sortSet (EvX.c (ev_var (i := 4) rfl)) (by first | omega | (show (2 : Nat) < 64; decide))))) (.k (.k (.k (.k (.k (.k (.k (.d .n)))))))) (fun pre0 t post0 s0 ex0 hs0 Sb0 rb0 => ⟨_, _, tg_name rfl, ?_⟩) (fun s0 hs0 => ?_)
  ·
    obtain ⟨least_b, found_b⟩ := s0
    show At _ _ _ _ [.im n, .im trace, .im b, .im stop, .im lasts, .im least_b, .im found_b, .im t]
    refine q_cut1 [.im n, .im trace, .im b, .im stop, .im lasts, .im (lsStep lasts b stop (least_b, found_b) t).1, .im (lsStep lasts b stop (least_b, found_b) t).2, .im t] ?_ ?_
    · refine q_ifc (et_and (et_test (ev_b0 (ev_var (i := 7) rfl) (ev_var (i := 3) rfl))) (fun hc => et_test (ev_b0 (ev_call (ea_cons (ev_var (i := 4) rfl) (ea_cons (ev_var (i := 2) rfl) (ea_cons (ev_var (i := 3) rfl) (ea_cons (ev_var (i := 7) rfl) (ea_nil))))) (by ((try dsimp only) <;> (repeat' (first | assumption | omega | refine And.intro ?_ ?_)) <;> first | trivial | assumption | omega | decide | simp))) (ev_var (i := 5) rfl)))) (fun hb0 => ?_) (fun hb0 => ?_)
      ·
        refine qg_set 5 (ev_call (ea_cons (ev_var (i := 4) rfl) (ea_cons (ev_var (i := 2) rfl) (ea_cons (ev_var (i := 3) rfl) (ea_cons (ev_var (i := 7) rfl) (ea_nil))))) (by ((try dsimp only) <;> (repeat' (first | assumption | omega | refine And.intro ?_ ?_)) <;> first | trivial | assumption | omega | decide | simp))) rfl fun least1 h_least1 => ?_
        refine qg_set 6 (EvX.some (ev_var (i := 7) rfl)) rfl fun found1 h_found1 => ?_
        refine q_next ?_
        exact at_mid (.k (.k (.k (.k (.k (.k (.k (.k .n)))))))) (by unfold lsStep; rw [if_pos hb0]; subst_vars; rfl)
      ·
        refine q_next ?_
        exact at_mid (.k (.k (.k (.k (.k (.k (.k (.k .n)))))))) (by unfold lsStep; rw [if_neg (by rw [hb0]; decide)])
    refine at_gen 5 rfl fun least2 h_least2 => ?_
    refine at_gen 6 rfl fun found2 h_found2 => ?_
    exact q_next (at_mid (.k (.k (.k (.k (.k (.k (.k (.d .n)))))))) (by subst_vars; rfl))
  ·
    obtain ⟨least_e, found_e⟩ := s0
    show At _ _ _ _ [.im n, .im trace, .im b, .im stop, .im lasts, .im least_e, .im found_e, .no]
    exact q_ret (ev_pair (ev_var (i := 5) rfl) (ev_var (i := 6) rfl)) (hret _ _ (by subst_vars; rw [hs0]; unfold leastM lsFold; rfl))
end
theorem sc_plan_for : FnScope ["n", "trace", "b", "s", "stop", "least", "t", "lasts", "due", "copies", "room", "tick", "sheet", "last"] ["n", "trace", "b", "s", "stop"] (defScope s_plan_for) := ⟨rfl, rfl, rfl, by decide +kernel, rfl, by decide +kernel, by decide +kernel⟩
section
variable {P : Program} {w : World} {K : Fg} {mg : Str → Option Value} {base : Heap}
set_option maxHeartbeats 4000000 in
theorem ok_plan_for (T : Tx K mg) (c_last_writings : Cal P w K mg base 2 "last_writings" ["n", "trace", "stop"] (spF K (fun a : Int × (List (Tp Int)) × Int × Unit => lastsM a.1 a.2.1 a.2.2.1) (fun a => 0 ≤ a.1 ∧ a.1 ≤ 1000 ∧ TrOk a.2.1 ∧ 0 ≤ a.2.2.1 ∧ a.2.2.1 ≤ 100000))) (c_least_left : Cal P w K mg base 3 "least_left" ["n", "trace", "b", "stop"] (spF K (fun a : Int × (List (Tp Int)) × Int × Int × Unit => leastM a.1 a.2.1 a.2.2.1 a.2.2.2.1) (fun a => 0 ≤ a.1 ∧ a.1 ≤ 60 ∧ TrOk a.2.1 ∧ 0 ≤ a.2.2.1 ∧ a.2.2.1 ≤ 1000 ∧ 0 ≤ a.2.2.2.1 ∧ a.2.2.2.1 ≤ 100000))) : Cal P w K mg base 4 "plan_for" ["n", "trace", "b", "s", "stop"] (spN K (fun a : Int × (List (Tp Int)) × Int × Int × Int × Unit => planM a.1 a.2.1 a.2.2.1 a.2.2.2.1 a.2.2.2.2.1) (fun a => 0 ≤ a.1 ∧ a.1 ≤ 60 ∧ TrOk a.2.1 ∧ 0 < a.2.2.1 ∧ a.2.2.1 ≤ 1000 ∧ 0 ≤ a.2.2.2.2.1 ∧ a.2.2.2.2.1 ≤ 100000)) := by
  have nd := sc_plan_for.nd
  refine def_spN (k := 3) T.d_plan_for sc_plan_for rfl fun fa cdv A outer s H E hr => ?_
  refine ⟨_, pss_cons (ps_asg (pe_cal c_least_left hr (by decide) (by rfl) (pa_cons (pv 0) (pa_cons (pv 1) (pa_cons (pv 2) (pa_cons (pv 4) pa_nil))))) (pg_tup rfl (pgs_cons (pg_name (i := 5) nd rfl (.inl rfl)) (pgs_cons (pg_name (i := 6) nd rfl (.inl rfl)) (pgs_nil)))))
      (pss_cons (ps_if (pt_cmpR op_gt (pv 5) (pv 3) (nomark _)) (pss_cons (ps_ret (pe_tup (pa_cons (pe_str) (pa_cons (pv 6) pa_nil))))
      (pss_nil)) (pss_nil))
      (pss_cons (ps_set (i := 7) nd rfl (.inl rfl) (pe_cal c_last_writings hr (by decide) (by rfl) (pa_cons (pv 0) (pa_cons (pv 1) (pa_cons (pv 4) pa_nil)))))
      (pss_cons (ps_setLc (i := 8) (own := [("last", 13), ("sheet", 12)]) (g := gTup K 2 (gCons (gName 13) (gCons (gName 12) (gNil)))) rfl nd rfl rfl (sw_true rfl rfl rfl (by decide +kernel)) (pi_list (pe_callB cr_sort2 (by rfl) T.n_sorted (by decide +kernel) (pa_cons (pe_lc (own := [("sheet", 12), ("last", 13)]) (g := gTup K 2 (gCons (gName 12) (gCons (gName 13) (gNil)))) (by rfl) nd (pi_enum (by rfl) T.n_enumerate (pa_cons (pv 7) pa_nil)) (blkOk_by (N := ["n", "trace", "b", "s", "stop", "least", "t", "lasts", "due", "copies", "room", "tick", "sheet", "last"]) (sc := defScope s_plan_for) (by decide +kernel)) (fun _ _ _ _ _ => pg_tup rfl (pgs_cons (pg_name (i := 12) nd rfl (.inl rfl) (.inr rfl)) (pgs_cons (pg_name (i := 13) nd rfl (.inl rfl) (.inr rfl)) (pgs_nil)))) (fun _ _ _ _ _ => pts_nil) (fun _ _ _ _ _ => pe_tup (pa_cons (pv 13) (pa_cons (pv 12) pa_nil)))) pa_nil))) (blkOk_by (N := ["n", "trace", "b", "s", "stop", "least", "t", "lasts", "due", "copies", "room", "tick", "sheet", "last"]) (sc := defScope s_plan_for) (by decide +kernel)) (fun _ _ _ _ _ => pg_tup rfl (pgs_cons (pg_name (i := 13) nd rfl (.inl rfl) (.inr rfl)) (pgs_cons (pg_name (i := 12) nd rfl (.inl rfl) (.inr rfl)) (pgs_nil)))) (fun _ _ _ _ _ => pts_nil) (fun _ _ _ _ _ => pv 12))
      (pss_cons (ps_set (i := 8) nd rfl (.inl rfl) (pe_slice sl_list (pv 8) po_none (po_some (pe_callB (call_maxG rfl) (by rfl) T.n_max (by decide +kernel) (pa_cons (pe_int) (pa_cons (pe_op op_sub (pv 0) (pv 3)) pa_nil))))))
      (pss_cons (ps_set (i := 9) nd rfl (.inl rfl) (pe_lst (pa_nil)))
      (pss_cons (ps_set (i := 10) nd rfl (.inl rfl) pe_dnewK)
      (pss_cons (ps_set (i := 11) nd rfl (.inl rfl) (pe_op op_sub (pv 4) (pe_int)))
      (pss_cons (ps_for PassesOwn.never rfl (pi_reversed (by rfl) T.n_reversed (pa_cons (pv 8) pa_nil)) (pg_name (i := 12) nd rfl (.inl rfl))
      (pss_cons (ps_while PassesOwn.never (pt_cmpR op_eq (pe_dget2 (hu_of hr) (pv 10) (pv 11) (pe_int) ⟨rfl, rfl, rfl, rfl⟩) (pv 2) (nomark _))
      (pss_cons (ps_set (i := 11) nd rfl (.inl rfl) (pe_op op_sub (pv 11) (pe_int)))
      (pss_nil)))
      (pss_cons (ps_dput (hu_of hr) (pv 10) (pv 11) (pe_op op_add (pe_dget2 (hu_of hr) (pv 10) (pv 11) (pe_int) ⟨rfl, rfl, rfl, rfl⟩) (pe_int)) rfl)
      (pss_cons (ps_expr (pe_bm PySem.F.plainAttrs_list PySem.F.slot_list_append PySem.F.type_list_append mt_append (pv 9) (pa_cons (pe_tup (pa_cons (pv 11) (pa_cons (pv 12) pa_nil))) pa_nil)))
      (pss_nil)))))
      (pss_cons (ps_ret (pe_tup (pa_cons (pe_str) (pa_cons (pe_callB cr_sort2 (by rfl) T.n_sorted (by decide +kernel) (pa_cons (pv 9) pa_nil)) pa_nil))))
      (pss_nil)))))))))), ?_⟩
  rintro ⟨n, trace, b, s, stop, _⟩ hpre B S0 Q hret
  show At _ _ _ _ [.im n, .im trace, .im b, .im s, .im stop, .no, .no, .no, .no, .no, .no, .no, .no, .no]
  obtain ⟨n0, n1, tr, b0, b1, s0, s1⟩ := hpre
  dsimp only at n0 n1 tr b0 b1 s0 s1
  refine qg_pair 5 6 (ev_call (ea_cons (ev_var (i := 0) rfl) (ea_cons (ev_var (i := 1) rfl) (ea_cons (ev_var (i := 2) rfl) (ea_cons (ev_var (i := 4) rfl) (ea_nil))))) (by ((try dsimp only) <;> (repeat' (first | assumption | omega | refine And.intro ?_ ?_)) <;> first | trivial | assumption | omega | decide | simp))) rfl rfl fun least t h_least h_t => ?_
  refine q_if (et_test (ev_b0 (ev_var (i := 5) rfl) (ev_var (i := 3) rfl))) (fun hb0 => ?_) (fun hb0 => ?_)
  ·
    exact q_ret (ev_pairF (EvX.toF B (ev_str)) (EvX.inrF (EvX.toF B (ev_var (i := 6) rfl)))) (hret _ _ (by unfold planM; rw [if_pos (by rw [h_least] at hb0; exact hb0), h_t]))
  ·
    refine q_next ?_
    refine qg_set 7 (ev_call (ea_cons (ev_var (i := 0) rfl) (ea_cons (ev_var (i := 1) rfl) (ea_cons (ev_var (i := 4) rfl) (ea_nil)))) (by ((try dsimp only) <;> (repeat' (first | assumption | omega | refine And.intro ?_ ?_)) <;> first | trivial | assumption | omega | decide | simp))) rfl fun lasts h_lasts => ?_
    have hl : lasts.length ≤ 60 := by rw [h_lasts]; dsimp only; rw [len_lasts]; omega
    refine qg_set 8 (EvL.ev (el_lcM _ (it_list (EvL.ev (el_sort2 (EvL.c (el_lcM _ (it_enum (ev_var (i := 7) rfl)) (by rw [len_enumI]; omega) rfl (fun x hm_x => ⟨_, _, tg_pair (tg_name rfl) (tg_name rfl), (by decide), ev_pair (ev_var (i := 13) rfl) (ev_var (i := 12) rfl)⟩)))))) (by rw [(srt2_perm _).length_eq, List.length_map, len_enumI]; omega) rfl (fun x1 hm_x1 => ⟨_, _, tg_pair (tg_name rfl) (tg_name rfl), (by decide), ev_var (i := 12) rfl⟩))) rfl fun due h_due => ?_
    show At _ _ _ _ [.im n, .im trace, .im b, .im s, .im stop, .im least, .im t, .im lasts, .im due, .no, .no, .no, .no, .no]
    refine qg_set 8 (EvL.ev (el_slice (EvX.c (ev_var (i := 8) rfl)) eo_none (eo_some (ev_max (ev_int) (ev_i0 (ev_var (i := 0) rfl) (ev_var (i := 3) rfl)))))) rfl fun due1 h_due1 => ?_
    refine qg_own 9 (el_lst (els_nil (α := (Int × Int))) (by simp)) rfl fun copies h_copies => ?_
    refine q_dnew Int (i := 10) rfl ?_
    refine at_genO 10 rfl fun room h_room => ?_
    refine qg_set 11 (ev_i0 (ev_var (i := 4) rfl) (ev_int)) rfl fun tick h_tick => ?_
    show At _ _ _ _ [.im n, .im trace, .im b, .im s, .im stop, .im least, .im t, .im lasts, .im due1, .ow copies, .ow room, .im tick, .no, .no]
    refine qg_inv (fun st_ : (List (Int × Int)) × (Dct Int) × Int => [.im n, .im trace, .im b, .im s, .im stop, .im least, .im t, .im lasts, .im due1, .ow st_.1, .ow st_.2.1, .im st_.2.2, .no, .no]) (PlI b stop) (copies, room, tick) (it_rev (ev_var (i := 8) rfl)) (.k (.k (.k (.k (.k (.k (.k (.k (.k (.k (.k (.k (.d (.d .n)))))))))))))) (by rw [h_copies, h_room, h_tick]; exact PlI.start b stop b0) (fun pre0 sheet post0 s0 ex0 hs0 Sb0 rb0 => ⟨_, _, tg_name rfl, ?_⟩) (fun s0 hs0 => ?_)
    ·
      obtain ⟨copies_b, room_b, tick_b⟩ := s0
      show At _ _ _ _ [.im n, .im trace, .im b, .im s, .im stop, .im least, .im t, .im lasts, .im due1, .ow copies_b, .ow room_b, .im tick_b, .im sheet, .no]
      have hdu : due1 = dueM lasts (max 0 (n - s)) := by rw [h_due1, h_due]; unfold dueM; rfl
      have hlen : pre0.length ≤ 60 := by
        have := congrArg List.length ex0
        rw [hdu] at this
        have := len_due lasts (max 0 (n - s))
        simp only [List.length_append, List.length_cons, List.length_reverse] at *
        omega
      have hcl : copies_b.length = pre0.length := by have := hs0.cop; dsimp only at this; rw [this, plc_len]
      have hfew := hs0.few
      dsimp only at hfew
      refine qg_whl (fun st_ : Int => [.im n, .im trace, .im b, .im s, .im stop, .im least, .im t, .im lasts, .im due1, .ow copies_b, .ow room_b, .im st_, .im sheet, .no]) (fun t => decide ((room_b.get? t).getD 0 = b)) (fun t => Fl.nx (t - 1)) (fun _ => ()) tick_b 1 () (fun t => t = tick_b ∨ (t = tick_b - 1 ∧ (room_b.get? tick_b).getD 0 = b)) (fun t => if t = tick_b then 1 else 0) (.k (.k (.k (.k (.k (.k (.k (.k (.k (.k (.k (.k (.k (.d .n)))))))))))))) rfl (.inl rfl) (by rw [if_pos rfl]; exact Nat.le_refl _) (fun t hi hm => by rcases hi with e | ⟨e, _⟩ <;> (try (rw [if_pos e] at hm; omega)); rw [e]; exact hs0.stops b0) (fun s1 hI1 => ?_) (fun fu1 s1 hI1 hm1 hc1 hR1 Sb1 rb1 => ?_) (fun s1 hR1 hI1 hc1 Sb1 rb1 => ?_)
      ·
        show EvT _ _ [.im n, .im trace, .im b, .im s, .im stop, .im least, .im t, .im lasts, .im due1, .ow copies_b, .ow room_b, .im s1, .im sheet, .no] _ [.im n, .im trace, .im b, .im s, .im stop, .im least, .im t, .im lasts, .im due1, .ow copies_b, .ow room_b, .im s1, .im sheet, .no]
        exact et_test (ev_eq (ev_dget2 (ed_own (i := 10) rfl) (ev_var (i := 11) rfl) (ev_int)) (ev_var (i := 2) rfl))
      ·
        show At _ _ _ _ [.im n, .im trace, .im b, .im s, .im stop, .im least, .im t, .im lasts, .im due1, .ow copies_b, .ow room_b, .im s1, .im sheet, .no]
        have hs1e : s1 = tick_b := by
          rcases hI1 with e | ⟨e, _⟩
          · exact e
          · exfalso
            rw [e] at hc1
            have := hs0.stops b0
            rw [this] at hc1
            exact Bool.false_ne_true hc1
        refine qg_set 11 (ev_i0 (ev_var (i := 11) rfl) (ev_int)) rfl fun tick1 h_tick1 => ?_
        exact q_next (at_mid (.k (.k (.k (.k (.k (.k (.k (.k (.k (.k (.k (.k (.k (.d .n)))))))))))))) (whN s1 tick1 (by rfl) hR1 hc1 (by subst_vars; rfl) (by exact .inr ⟨by omega, by rw [← hs1e]; exact of_decide_eq_true hc1⟩) hm1 (by rw [if_pos hs1e, if_neg (by omega)]; omega)))
      ·
        show At _ _ _ _ [.im n, .im trace, .im b, .im s, .im stop, .im least, .im t, .im lasts, .im due1, .ow copies_b, .ow room_b, .im s1, .im sheet, .no]
        refine qg_dput 10 (ev_i0 (ev_dget2 (ed_own (i := 10) rfl) (ev_var (i := 11) rfl) (ev_int)) (ev_int)) (ev_var (i := 11) rfl) rfl rfl (by exact lt_line (by omega)) fun room1 h_room1 => ?_
        refine qg_app 9 rfl (ev_pair (ev_var (i := 11) rfl) (ev_var (i := 12) rfl)) rfl (by exact lt_line (by omega)) fun copies1 h_copies1 => ?_
        exact At.reb rb1 (q_next (at_mid (.k (.k (.k (.k (.k (.k (.k (.k (.k (.k (.k (.k (.d (.d .n)))))))))))))) ⟨(copies1, room1, s1), by rfl, by rw [h_copies1, h_room1]; exact hs0.next b0 (hs0.tick_at b0 hI1 hc1)⟩))
    ·
      obtain ⟨copies_e, room_e, tick_e1⟩ := s0
      show At _ _ _ _ [.im n, .im trace, .im b, .im s, .im stop, .im least, .im t, .im lasts, .im due1, .ow copies_e, .ow room_e, .im tick_e1, .no, .no]
      refine at_relL (i := 9) rfl ?_
      exact q_retPL (fun z_ => (Sum.inl z_ : (Sum (List (Int × Int)) (Option Int)))) (fun h_ => h_) (ev_str) (el_sort2 (EvX.c (ev_var (i := 9) rfl))) (hret _ _ (by unfold planM; rw [if_neg (by rw [h_least] at hb0; rw [hb0]; decide)]; have hc := hs0.cop; dsimp only at hc; have hdu : due1 = dueM lasts (max 0 (n - s)) := (by rw [h_due1, h_due]; unfold dueM; rfl); rw [hc, hdu, h_lasts])) (fun h_ => h_)
end
theorem sc_left_by : FnScope ["n", "trace", "plan", "copies", "stop", "copied", "tick", "sheet", "last"] ["n", "trace", "plan"] (defScope s_left_by) := ⟨rfl, rfl, rfl, by decide +kernel, rfl, by decide +kernel, by decide +kernel⟩
section
variable {P : Program} {w : World} {K : Fg} {mg : Str → Option Value} {base : Heap}
set_option maxHeartbeats 4000000 in
theorem ok_left_by (T : Tx K mg) (c_written_in : Cal P w K mg base 1 "written_in" ["trace", "start", "stop"] (spF K (fun a : (List (Tp Int)) × Int × Int × Unit => writtenIn a.1 a.2.1 a.2.2.1) (fun a => TrOk a.1 ∧ 0 ≤ a.2.1 ∧ a.2.1 ≤ 100000 ∧ -1000 ≤ a.2.2.1 ∧ a.2.2.1 ≤ 1000000000000000000000000000000000000000000000000000000000000))) : Cal P w K mg base 2 "left_by" ["n", "trace", "plan"] (spN K (fun a : Int × (List (Tp Int)) × ((List (Int × Int)) × Int) × Unit => leftM a.1 a.2.1 a.2.2.1) (fun a => 0 ≤ a.1 ∧ a.1 ≤ 1000 ∧ TrOk a.2.1 ∧ a.2.2.1.1.length ≤ 1000 ∧ -1000 ≤ a.2.2.1.2 ∧ a.2.2.1.2 ≤ 1000000000000000000000000000000000000000000000000000000000000)) := by
  have nd := sc_left_by.nd
  refine def_spN (k := 1) T.d_left_by sc_left_by rfl fun fa cdv A outer s H E hr => ?_
  refine ⟨_, pss_cons (ps_asg (pv 2) (pg_tup rfl (pgs_cons (pg_name (i := 3) nd rfl (.inl rfl)) (pgs_cons (pg_name (i := 4) nd rfl (.inl rfl)) (pgs_nil)))))
      (pss_cons (ps_set (i := 5) nd rfl (.inr rfl) pe_dnewK)
      (pss_cons (ps_for PassesOwn.never rfl (pi_list (pv 3)) (pg_tup rfl (pgs_cons (pg_name (i := 6) nd rfl (.inl rfl)) (pgs_cons (pg_name (i := 7) nd rfl (.inl rfl)) (pgs_nil))))
      (Evl.pss_cut (ps_if (pt_chain op_le op_lt (pe_int) (pv 6) (pv 4)) (pss_cons (ps_dput (hu_of hr) (pv 5) (pv 7) (pe_callB (call_maxG rfl) (by rfl) T.n_max (by decide +kernel) (pa_cons (pv 6) (pa_cons (pe_dget2 (hu_of hr) (pv 5) (pv 7) (pv 6) ⟨rfl, rfl, rfl, rfl⟩) pa_nil))) rfl)
      (pss_nil)) (pss_nil))
      (pss_nil)))
      (pss_cons (ps_set (i := 8) nd rfl (.inr rfl) (pe_cal c_written_in hr (by decide) (by rfl) (pa_cons (pv 1) (pa_cons (pe_int) (pa_cons (pv 4) pa_nil)))))
      (pss_cons (ps_ret (pe_lc (own := [("sheet", 7)]) (g := gName 7) (by rfl) nd (pi_range1 (by rfl) T.n_range (pa_cons (pv 0) pa_nil)) (blkOk_by (N := ["n", "trace", "plan", "copies", "stop", "copied", "tick", "sheet", "last"]) (sc := defScope s_left_by) (by decide +kernel)) (fun _ _ _ _ _ => pg_name (i := 7) nd rfl (.inl rfl) (.inr rfl)) (fun _ _ _ _ _ => pts_one (PW.pt (pw_or (pt_cmp (pc_dnotin (hu_of hr) (pv 7) (pv 5))) (pw_or1 (pt_cmpR op_ge (pe_dget2 (hu_of hr) (pv 8) (pv 7) (pe_un un_neg (pe_int)) ⟨rfl, rfl, rfl, rfl⟩) (pe_dget (hu_of hr) (pv 5) (pv 7) (fun _ _ => rfl)) (nomark _)))))) (fun _ _ _ _ _ => pv 7)))
      (pss_nil))))), ?_⟩
  rintro ⟨n, trace, plan, _⟩ hpre B S0 Q hret
  show At _ _ _ _ [.im n, .im trace, .im plan, .no, .no, .no, .no, .no, .no]
  obtain ⟨n0, n1, tr, c0, p0, p1⟩ := hpre
  dsimp only at n0 n1 tr c0 p0 p1
  refine qg_pair 3 4 (ev_var (i := 2) rfl) rfl rfl fun copies stop h_copies h_stop => ?_
  rw [← h_copies] at c0
  rw [← h_stop] at p0 p1
  refine q_dnew Int (i := 5) rfl ?_
  refine at_genO 5 rfl fun copied h_copied => ?_
  refine qg_fold (fun st_ : (Dct Int) => [.im n, .im trace, .im plan, .im copies, .im stop, .ow st_, .no, .no, .no]) (copStep stop) copied (it_list (ev_var (i := 3) rfl)) (.k (.k (.k (.k (.k (.k (.d (.d (.d .n))))))))) (fun pre0 it post0 s0 ex0 hs0 Sb0 rb0 => ⟨_, _, tg_pair (tg_name rfl) (tg_name rfl), ?_⟩) (fun s0 hs0 => ?_)
  ·
    show At _ _ _ _ [.im n, .im trace, .im plan, .im copies, .im stop, .ow s0, .im it.1, .im it.2, .no]
    have hlen := cop_len stop pre0 copied
    rw [← hs0, h_copied] at hlen
    have hpl : pre0.length ≤ copies.length := by rw [← ex0]; simp
    refine q_cut1 [.im n, .im trace, .im plan, .im copies, .im stop, .ow (copStep stop s0 it), .im it.1, .im it.2, .no] ?_ ?_
    · refine q_ifc (et_test (ev_chain (ev_int) (ev_var (i := 6) rfl) (ev_var (i := 4) rfl))) (fun hb0 => ?_) (fun hb0 => ?_)
      ·
        refine qg_dput 5 (ev_max (ev_var (i := 6) rfl) (ev_dget2 (ed_own (i := 5) rfl) (ev_var (i := 7) rfl) (ev_var (i := 6) rfl))) (ev_var (i := 7) rfl) rfl rfl (by have : (Dct.emp : Dct Int).l.length = 0 := rfl; exact lt_line (by omega)) fun copied1 h_copied1 => ?_
        refine q_next ?_
        exact at_mid (.k (.k (.k (.k (.k (.k (.k (.k (.d .n))))))))) (by unfold copStep inT; rw [if_pos hb0]; subst_vars; rfl)
      ·
        refine q_next ?_
        exact at_mid (.k (.k (.k (.k (.k (.k (.k (.k (.d .n))))))))) (by unfold copStep inT; rw [if_neg (by rw [hb0]; decide)])
    refine at_genO 5 rfl fun copied2 h_copied2 => ?_
    exact q_next (at_mid (.k (.k (.k (.k (.k (.k (.d (.d (.d .n))))))))) (by subst_vars; rfl))
  ·
    show At _ _ _ _ [.im n, .im trace, .im plan, .im copies, .im stop, .ow s0, .no, .no, .no]
    have hcm : s0 = copM copies stop := by rw [hs0, h_copied]; unfold copM; rfl
    show At _ _ _ _ [.im n, .im trace, .im plan, .im copies, .im stop, .ow s0, .no, .no, .no]
    refine qg_set 8 (ev_call (ea_cons (ev_var (i := 1) rfl) (ea_cons (ev_int) (ea_cons (ev_var (i := 4) rfl) (ea_nil)))) (by ((try dsimp only) <;> (repeat' (first | assumption | omega | refine And.intro ?_ ?_)) <;> first | trivial | assumption | omega | decide | simp))) rfl fun last h_last => ?_
    refine at_relD (i := 5) rfl ?_
    exact q_retLF (el_lcF _ _ (it_rng1 (ev_var (i := 0) rfl) (by first | omega | (dsimp only; omega))) (by first | omega | (dsimp only; omega) | (rw [len_rng]; omega) | (rw [len_rng]; exact le_line (by omega))) rfl (fun x hm_x => ⟨_, _, tg_name rfl, (by decide), et_or (et_B (ev_dnotin (ev_var (i := 7) rfl) (EvX.d (ev_var (i := 5) rfl)))) (fun hc => et_test (ev_b0 (ev_dget2 (EvX.d (ev_var (i := 8) rfl)) (ev_var (i := 7) rfl) (ev_neg (ev_int))) (ev_dget (EvX.d (ev_var (i := 5) rfl)) (ev_var (i := 7) rfl) (by simpa using hc)))), fun hf_x => ev_var (i := 7) rfl⟩)) (hret _ _ (by unfold leftM; rw [← h_copies, ← h_stop, h_last, hcm]; dsimp only; rw [List.map_id']))
end
theorem sc_is_plan : FnScope ["n", "trace", "b", "s", "plan", "copies", "stop", "many", "tick", "sheet"] ["n", "trace", "b", "s", "plan"] (defScope s_is_plan) := ⟨rfl, rfl, rfl, by decide +kernel, rfl, by decide +kernel, by decide +kernel⟩
section
variable {P : Program} {w : World} {K : Fg} {mg : Str → Option Value} {base : Heap}
set_option maxHeartbeats 4000000 in
theorem ok_is_plan (T : Tx K mg) (c_left_by : Cal P w K mg base 2 "left_by" ["n", "trace", "plan"] (spN K (fun a : Int × (List (Tp Int)) × ((List (Int × Int)) × Int) × Unit => leftM a.1 a.2.1 a.2.2.1) (fun a => 0 ≤ a.1 ∧ a.1 ≤ 1000 ∧ TrOk a.2.1 ∧ a.2.2.1.1.length ≤ 1000 ∧ -1000 ≤ a.2.2.1.2 ∧ a.2.2.1.2 ≤ 1000000000000000000000000000000000000000000000000000000000000))) : Cal P w K mg base 3 "is_plan" ["n", "trace", "b", "s", "plan"] (spF K (fun a : Int × (List (Tp Int)) × Int × Int × ((List (Int × Int)) × Int) × Unit => isPlanM a.1 a.2.1 a.2.2.1 a.2.2.2.1 a.2.2.2.2.1) (fun a => 0 ≤ a.1 ∧ a.1 ≤ 1000 ∧ TrOk a.2.1 ∧ a.2.2.2.2.1.1.length < 64 ∧ -1000 ≤ a.2.2.2.2.1.2 ∧ a.2.2.2.2.1.2 ≤ 1000000000000000000000000000000000000000000000000000000000000)) := by
  have nd := sc_is_plan.nd
  refine def_spF (k := 2) T.d_is_plan sc_is_plan rfl fun fa cdv A outer s H E hr => ?_
  refine ⟨_, pss_cons (ps_asg (pv 4) (pg_tup rfl (pgs_cons (pg_name (i := 5) nd rfl (.inl rfl)) (pgs_cons (pg_name (i := 6) nd rfl (.inl rfl)) (pgs_nil)))))
      (pss_cons (ps_if (PW.pt (pw_or (pt_cmpR op_lt (pv 6) (pe_int) (nomark _)) (pw_or1 (pt_cmpR (op_neD hr.units) (pv 5) (pe_sortSet2 rfl hr.units (by rfl) T.n_sorted (by rfl) T.n_set (pv 5)) (nomark _))))) (pss_cons (ps_ret (pe_bl))
      (pss_nil)) (pss_nil))
      (pss_cons (ps_set (i := 7) nd rfl (.inl rfl) pe_dnewK)
      (pss_cons (ps_for PassesOwn.never rfl (pi_list (pv 5)) (pg_tup rfl (pgs_cons (pg_name (i := 8) nd rfl (.inl rfl)) (pgs_cons (pg_name (i := 9) nd rfl (.inl rfl)) (pgs_nil))))
      (pss_cons (ps_dput (hu_of hr) (pv 7) (pv 8) (pe_op op_add (pe_dget2 (hu_of hr) (pv 7) (pv 8) (pe_int) ⟨rfl, rfl, rfl, rfl⟩) (pe_int)) rfl)
      (pss_cons (ps_if (PW.pt (pw_or (pt_not (pt_chain op_le op_lt (pe_int) (pv 8) (pv 6))) (pw_or (pt_not (pt_chain op_le op_lt (pe_int) (pv 9) (pv 0))) (pw_or1 (pt_cmpR op_gt (pe_dget (hu_of hr) (pv 7) (pv 8) (fun _ _ => rfl)) (pv 2) (nomark _)))))) (pss_cons (ps_ret (pe_bl))
      (pss_nil)) (pss_nil))
      (pss_nil))))
      (pss_cons (ps_ret (pe_cmpR op_le (pe_callB call_lenG (by rfl) T.n_len (by decide +kernel) (pa_cons (pe_cal c_left_by hr (by decide) (by rfl) (pa_cons (pv 0) (pa_cons (pv 1) (pa_cons (pv 4) pa_nil)))) pa_nil)) (pv 3) (nomark _)))
      (pss_nil))))), ?_⟩
  rintro ⟨n, trace, b, s, plan, _⟩ hpre B S0 Q hret
  show At _ _ _ _ [.im n, .im trace, .im b, .im s, .im plan, .no, .no, .no, .no, .no]
  obtain ⟨n0, n1, tr, c0, p0, p1⟩ := hpre
  dsimp only at n0 n1 tr c0 p0 p1
  refine qg_pair 5 6 (ev_var (i := 4) rfl) rfl rfl fun copies stop h_copies h_stop => ?_
  have hc0 : copies.length < 64 := by rw [h_copies]; exact c0
  refine q_if (et_or (et_test (ev_b0 (ev_var (i := 6) rfl) (ev_int))) (fun hc => et_test (ev_neD (ev_var (i := 5) rfl) (EvL.ev (el_sortSet2 (EvX.c (ev_var (i := 5) rfl)) (by exact hc0))) (by decide)))) (fun hb0 => ?_) (fun hb0 => ?_)
  ·
    exact q_ret (ev_bl) (hret _ _ (by
dsimp only; rw [h_copies, h_stop] at hb0; rcases Bool.or_eq_true _ _ ▸ hb0 with q | q
· exact (isPlan_no0 (by have := of_decide_eq_true q; omega)).symm
· exact (isPlan_no1 (by simpa using q)).symm))
  ·
    refine q_next ?_
    refine q_dnew Int (i := 7) rfl ?_
    refine at_genO 7 rfl fun many h_many => ?_
    refine qg_inv (fun st_ : (Dct Int) => [.im n, .im trace, .im b, .im s, .im plan, .im copies, .im stop, .ow st_, .no, .no]) (fun pre d => IpI n b stop pre d) many (it_list (ev_var (i := 5) rfl)) (.k (.k (.k (.k (.k (.k (.k (.k (.d (.d .n)))))))))) (by rw [h_many]; exact IpI.start n b stop) (fun pre0 it post0 s0 ex0 hs0 Sb0 rb0 => ⟨_, _, tg_pair (tg_name rfl) (tg_name rfl), ?_⟩) (fun s0 hs0 => ?_)
    ·
      show At _ _ _ _ [.im n, .im trace, .im b, .im s, .im plan, .im copies, .im stop, .ow s0, .im it.1, .im it.2]
      have hdl := hs0.len
      have hpl : pre0.length < copies.length := by rw [← ex0]; simp
      have exc : pre0 ++ it :: post0 = plan.1 := by rw [ex0, h_copies]
      refine qg_dput 7 (ev_i0 (ev_dget2 (ed_own (i := 7) rfl) (ev_var (i := 8) rfl) (ev_int)) (ev_int)) (ev_var (i := 8) rfl) rfl rfl (by exact lt_line (by omega)) fun many1 h_many1 => ?_
      show At _ _ _ _ [.im n, .im trace, .im b, .im s, .im plan, .im copies, .im stop, .ow many1, .im it.1, .im it.2]
      refine q_if (et_or (et_not (et_test (ev_chain (ev_int) (ev_var (i := 8) rfl) (ev_var (i := 6) rfl)))) (fun hc => et_or (et_not (et_test (ev_chain (ev_int) (ev_var (i := 9) rfl) (ev_var (i := 0) rfl)))) (fun hc => et_test (ev_b0 (ev_dget (ed_own (i := 7) rfl) (ev_var (i := 8) rfl) (by rw [h_many1, Dct.get?_put, if_pos rfl]; rfl)) (ev_var (i := 2) rfl))))) (fun hb1 => ?_) (fun hb1 => ?_)
      ·
        exact q_ret (ev_bl) ((hret _ _ (by dsimp only; rw [h_many1, hs0.dix, h_stop] at hb1; exact (IpI.bad exc hb1).symm)).reb rb0)
      ·
        refine q_next ?_
        exact q_next (at_mid (.k (.k (.k (.k (.k (.k (.k (.k (.d (.d .n)))))))))) ⟨many1, by rfl, by rw [h_many1]; rw [h_many1, hs0.dix] at hb1; obtain ⟨g1, g2⟩ := Bool.or_eq_false_iff.mp hb1; obtain ⟨g3, g4⟩ := Bool.or_eq_false_iff.mp g2; exact hs0.next (not_f g1) (not_f g3) (by have := of_decide_eq_false g4; omega)⟩)
    ·
      show At _ _ _ _ [.im n, .im trace, .im b, .im s, .im plan, .im copies, .im stop, .ow s0, .no, .no]
      exact q_ret (ev_b0 (ev_len (EvX.c (ev_callN (ea_cons (ev_var (i := 0) rfl) (ea_cons (ev_var (i := 1) rfl) (ea_cons (ev_var (i := 4) rfl) (ea_nil)))) (by exact ⟨n0, n1, tr, show plan.1.length ≤ 1000 by omega, p0, p1⟩)))) (ev_var (i := 3) rfl)) (hret _ _ (by dsimp only; rw [h_stop, h_copies] at hs0; rw [h_copies, h_stop] at hb0; obtain ⟨g1, g2⟩ := Bool.or_eq_false_iff.mp hb0; have e : plan.1 = usrt2 plan.1 := not_t g2; have e2 := usrt2_pw plan.1; rw [← e] at e2; exact (isPlan_of (plan := plan) (by have := of_decide_eq_false g1; omega) e2 hs0.all).symm))
end
theorem sc__law_last : FnScope ["trail", "sheet", "stop", "found", "beat"] ["trail", "sheet", "stop"] (defScope s__law_last) := ⟨rfl, rfl, rfl, by decide +kernel, rfl, by decide +kernel, by decide +kernel⟩
section
variable {P : Program} {w : World} {K : Fg} {mg : Str → Option Value} {base : Heap}
set_option maxHeartbeats 4000000 in
theorem ok__law_last (T : Tx K mg)  : Cal P w K mg base 1 "_law_last" ["trail", "sheet", "stop"] (spF K (fun a : (List (Tp Int)) × Int × Int × Unit => lastW a.1 a.2.2.1 a.2.1) (fun a => TrOk a.1 ∧ 0 ≤ a.2.2.1)) := by
  have nd := sc__law_last.nd
  refine def_spF (k := 0) T.d__law_last sc__law_last rfl fun fa cdv A outer s H E hr => ?_
  refine ⟨_, pss_cons (ps_set (i := 3) nd rfl (.inl rfl) (pe_un un_neg (pe_int)))
      (pss_cons (ps_for PassesOwn.never rfl (pi_range1 (by rfl) T.n_range (pa_cons (pe_callB (call_minG rfl) (by rfl) T.n_min (by decide +kernel) (pa_cons (pv 2) (pa_cons (pe_callB call_lenG (by rfl) T.n_len (by decide +kernel) (pa_cons (pv 0) pa_nil)) pa_nil))) pa_nil)) (pg_name (i := 4) nd rfl (.inl rfl))
      (Evl.pss_cut (ps_if (pt_cmpR (r := rIn K false) op_in_seq (pv 1) (pe_ix (r := rIxL K) ix_list (pv 0) (pv 4) (fun _ _ => rfl)) (by rfl)) (pss_cons (ps_set (i := 3) nd rfl (.inl rfl) (pv 4))
      (pss_nil)) (pss_nil))
      (pss_nil)))
      (pss_cons (ps_ret (pv 3))
      (pss_nil))), ?_⟩
  rintro ⟨trail, sheet, stop, _⟩ hpre B S0 Q hret
  show At _ _ _ _ [.im trail, .im sheet, .im stop, .no, .no]
  obtain ⟨tr, s0⟩ := hpre
  have tl := tr.len
  dsimp only at tl s0
  refine qg_set 3 (ev_neg (ev_int)) rfl fun found h_found => ?_
  refine qg_fold (fun st_ : Int => [.im trail, .im sheet, .im stop, .im st_, .no]) (lawLastS trail sheet) found (it_rng1 (ev_min (ev_var (i := 2) rfl) (ev_len (EvX.c (ev_var (i := 0) rfl)))) (by omega)) (.k (.k (.k (.k (.d .n))))) (fun pre0 beat post0 s0 ex0 hs0 Sb0 rb0 => ⟨_, _, tg_name rfl, ?_⟩) (fun s0 hs0 => ?_)
  ·
    show At _ _ _ _ [.im trail, .im sheet, .im stop, .im s0, .im beat]
    refine q_cut1 [.im trail, .im sheet, .im stop, .im (if decide (sheet ∈ (ix trail beat).l) = true then beat else s0), .im beat] ?_ ?_
    · refine q_ifc (et_test (ev_inT (ev_var (i := 1) rfl) (ev_ix (ev_var (i := 0) rfl) (ev_var (i := 4) rfl) (by exact rng_at (by omega) ex0)))) (fun hb0 => ?_) (fun hb0 => ?_)
      ·
        refine qg_set 3 (ev_var (i := 4) rfl) rfl fun found1 h_found1 => ?_
        refine q_next ?_
        exact at_mid (.k (.k (.k (.k (.k .n))))) (by subst_vars; simp only [hb0, if_true, if_false, Bool.false_eq_true])
      ·
        refine q_next ?_
        exact at_mid (.k (.k (.k (.k (.k .n))))) (by subst_vars; simp only [hb0, if_true, if_false, Bool.false_eq_true])
    refine at_gen 3 rfl fun found2 h_found2 => ?_
    exact q_next (at_mid (.k (.k (.k (.k (.d .n))))) (by subst_vars; rfl))
  ·
    show At _ _ _ _ [.im trail, .im sheet, .im stop, .im s0, .no]
    exact q_ret (ev_var (i := 3) rfl) (hret _ _ (by subst_vars; exact lawLast_eq _ _ _))
end
theorem sc__law_gives_way : FnScope ["sheet", "free", "taken", "asked", "place"] ["sheet", "free", "taken", "asked"] (defScope s__law_gives_way) := ⟨rfl, rfl, rfl, by decide +kernel, rfl, by decide +kernel, by decide +kernel⟩
section
variable {P : Program} {w : World} {K : Fg} {mg : Str → Option Value} {base : Heap}
set_option maxHeartbeats 4000000 in
theorem gw0 (T : Tx K mg) : Cal P w K mg base 1 "_law_gives_way" ["sheet", "free", "taken", "asked"] (spGW K (fun x fr z y => gw fr 0 x (z, y)) (GwP 0)) := by
  refine def_spGW (k := 0) T.d__law_gives_way sc__law_gives_way rfl fun fa cdv A outer s H E hr => ?_
  refine ⟨_, pss_cons ps_never (pss_cons ps_never pss_nil), ?_⟩
  intro sheet free p0 p1 taken asked hpre
  exact absurd hpre (gwP_zero)
set_option maxHeartbeats 4000000 in
theorem gwS (T : Tx K mg) {n : Nat} (c : Cal P w K mg base (n + 1) "_law_gives_way" ["sheet", "free", "taken", "asked"] (spGW K (fun x fr z y => gw fr n x (z, y)) (GwP n))) : Cal P w K mg base (n + 1 + 1) "_law_gives_way" ["sheet", "free", "taken", "asked"] (spGW K (fun x fr z y => gw fr (n + 1) x (z, y)) (GwP (n + 1))) := by
  have nd := sc__law_gives_way.nd
  refine def_spGW (k := n + 1) T.d__law_gives_way sc__law_gives_way rfl fun fa cdv A outer s H E hr => ?_
  refine ⟨_, pss_cons (ps_for PassesOwn.never rfl (pi_list (pe_ix (r := rIxL K) ix_list (pv 1) (pv 0) (fun _ _ => rfl))) (pg_name (i := 4) nd rfl (.inl rfl))
      (pss_cons (ps_if (pt_cmp (pc_dnotin (hu_of hr) (pv 4) (pv 3)))
        (pss_cons (ps_dput (hu_of hr) (pv 3) (pv 4) (pe_bl) rfl)
        (pss_cons (ps_if (PW.pt (pw_or (pt_cmp (pc_dnotin (hu_of hr) (pv 4) (pv 2))) (pw_or1 (pt_val (pe_cal c hr (Nat.le_refl _) (by rfl) (pa_cons (pe_dget (hu_of hr) (pv 2) (pv 4) (fun _ _ => rfl)) (pa_cons (pv 1) (pa_cons (pv 2) (pa_cons (pv 3) pa_nil)))))))))
          (pss_cons (ps_dput (hu_of hr) (pv 2) (pv 4) (pv 0) rfl) (pss_cons (ps_ret (pe_bl)) (pss_nil))) (pss_nil))
        (pss_nil))) (pss_nil))
      (pss_nil)))
      (pss_cons (ps_ret (pe_bl))
      (pss_nil)), ?_⟩
  intro sheet free p0 p1 taken asked hpre B S0 Q hret
  show At _ _ _ _ [.im sheet, .im free, .ow (DA.mk p0 taken), .ow (DA.mk p1 asked), .no]
  obtain ⟨los, bs, hF, hb, ht, ha, hs, hn, hf⟩ := hpre
  have hlf : (free.length : Int) = los.length := by rw [hF.e, List.length_map]
  have h1 := hF.lo _ (ix_mem' hs)
  refine qg_forL (fun st_ : GwS => [.im sheet, .im free, .ow (DA.mk p0 st_.1), .ow (DA.mk p1 st_.2), .no]) (gwB (gw free n) sheet) (fun s => (false, s)) (taken, asked) (gw free (n + 1) sheet (taken, asked)) (fun pre st_ => st_.1 = taken ∧ st_.2.Ok bs ∧ asked.l.length ≤ st_.2.l.length) (it_list (ev_ix (ev_var (i := 1) rfl) (ev_var (i := 0) rfl) ⟨hs.1, by omega⟩)) (.k (.k (.k (.k (.d .n))))) (gw_succ _ _ _ _) ⟨rfl, ha, Nat.le_refl _⟩ (fun pre0 place post0 s0 ex0 hI0 hR0 Sb0 rb0 => ⟨_, _, tg_name rfl, ?_⟩) (fun s0 hR0 hI0 => ?_)
  · show At _ _ _ _ [.im sheet, .im free, .ow (DA.mk p0 s0.1), .ow (DA.mk p1 s0.2), .im place]
    obtain ⟨i1, i2, i3⟩ := hI0
    obtain ⟨s1, s2⟩ := s0
    dsimp only at i1 i2 i3 hR0 ⊢
    subst i1
    have hpl : ix los sheet ≤ place ∧ place < bs := by
      have : place ∈ pre0 ++ place :: post0 := by simp
      rw [ex0, hF.at_ hs, mem_rng] at this
      exact this
    have z1 := ht.ok.cnt (by omega)
    have z2 := i2.cnt (by omega)
    refine q_if (et_B (ev_dninA (ev_var (i := 4) rfl) rfl)) (fun hb0 => ?_) (fun hb0 => ?_)
    · have hA : (s2.get? place).isSome = false := by simpa using hb0
      refine q_dputA 3 (ev_bl) (ev_var (i := 4) rfl) rfl rfl (lt_line (by dsimp only; omega)) ?_
      show At _ _ _ _ [.im sheet, .im free, .ow (DA.mk p0 s1), .ow (DA.mk p1 (s2.put place true)), .im place]
      cases hT : s1.get? place with
      | none =>
        refine q_if (et_orT (et_B (ev_dninA (ev_var (i := 4) rfl) rfl)) (by dsimp only; rw [hT]; rfl)) (fun _ => ?_) (fun h => by cases h)
        refine q_dputA 2 (ev_var (i := 0) rfl) (ev_var (i := 4) rfl) rfl rfl (lt_line (by dsimp only; omega)) ?_
        exact q_ret (ev_bl) ((hret _ _ _ _ rfl rfl (forL_rt hR0 (gwB_free hA hT)).symm).reb rb0)
      | some z =>
        have hz := ht.fit place z hT
        have ek : dix s1 place = z := by unfold dix; rw [hT]; rfl
        have ak2 : (s2.put place true).Ok bs := i2.put true ⟨by omega, hpl.2⟩
        have al2 : (s2.put place true).l.length = s2.l.length + 1 := len_new hA
        refine q_if (et_orF (et_B (ev_dninA (ev_var (i := 4) rfl) rfl)) (by dsimp only; rw [hT]; rfl) (et_B (ev_callGW (i := 2) (j := 3) (by decide) ((ev_dgetA (i := 2) rfl (ev_var (i := 4) rfl) rfl (by dsimp only; rw [hT]; rfl)).is ek) (ev_var (i := 1) rfl) rfl rfl ⟨los, bs, hF, hb, ht, ak2, ⟨hz.1, hz.2.1⟩, hn, by dsimp only; omega⟩))) (fun hb1 => ?_) (fun hb1 => ?_)
        · show At _ _ _ _ [.im sheet, .im free, .ow (DA.mk p0 (gw free n z (s1, s2.put place true)).2.1), .ow (DA.mk p1 (gw free n z (s1, s2.put place true)).2.2), .im place]
          have R := gw_ok hF n z s1 (s2.put place true) ht ak2 ⟨hz.1, hz.2.1⟩ (by omega)
          have e0 : gw free n z (s1, s2.put place true) = (true, (gw free n z (s1, s2.put place true)).2) := Prod.ext hb1 rfl
          have z3 := R.tk.ok.cnt (by omega)
          refine q_dputA 2 (ev_var (i := 0) rfl) (ev_var (i := 4) rfl) rfl rfl (lt_line (by dsimp only; omega)) ?_
          exact q_ret (ev_bl) ((hret _ _ _ _ rfl rfl (forL_rt hR0 (gwB_yes hA hT e0)).symm).reb rb0)
        · show At _ _ _ _ [.im sheet, .im free, .ow (DA.mk p0 (gw free n z (s1, s2.put place true)).2.1), .ow (DA.mk p1 (gw free n z (s1, s2.put place true)).2.2), .im place]
          have R := gw_ok hF n z s1 (s2.put place true) ht ak2 ⟨hz.1, hz.2.1⟩ (by omega)
          have e0 : gw free n z (s1, s2.put place true) = (false, (gw free n z (s1, s2.put place true)).2) := Prod.ext hb1 rfl
          refine q_next (q_next (q_next ?_))
          exact at_mid (.k (.k (.k (.k (.d .n))))) ⟨(gw free n z (s1, s2.put place true)).2, rfl, forL_nx hR0 (gwB_no hA hT e0), (R.no hb1).1, R.ak, by have := R.al; omega⟩
    · have hA : (s2.get? place).isSome = true := by simpa using hb0
      refine q_next (q_next ?_)
      exact at_mid (.k (.k (.k (.k (.d .n))))) ⟨(s1, s2), rfl, forL_nx hR0 (gwB_asked hA), rfl, i2, i3⟩
  · show At _ _ _ _ [.im sheet, .im free, .ow (DA.mk p0 s0.1), .ow (DA.mk p1 s0.2), .no]
    exact q_ret (ev_bl) (hret _ _ _ _ rfl rfl hR0.symm)
theorem gw_all (T : Tx K mg) : ∀ n : Nat, Cal P w K mg base (n + 1) "_law_gives_way" ["sheet", "free", "taken", "asked"] (spGW K (fun x fr z y => gw fr n x (z, y)) (GwP n))
  | 0 => gw0 T
  | n + 1 => gwS T (gw_all T n)
theorem ok__law_gives_way (T : Tx K mg) : Cal P w K mg base 26 "_law_gives_way" ["sheet", "free", "taken", "asked"] (spGW K (fun x fr z y => gw fr 25 x (z, y)) (GwP 25)) := gw_all T 25
end
theorem sc_law : FnScope ["script", "k", "spring", "n", "b", "trail", "stop", "free", "sheet", "taken", "matched", "least", "t", "word", "copies"] ["script"] (defScope s_law) := ⟨rfl, rfl, rfl, by decide +kernel, rfl, by decide +kernel, by decide +kernel⟩
section
variable {P : Program} {w : World} {K : Fg} {mg : Str → Option Value} {base : Heap}
set_option maxHeartbeats 4000000 in
theorem ok_law {fa : Addr} {fd : FuncData} (T : Tx K mg) (F : Fun K "law" "law" s_law fa fd) (c__law_cup : Cal P w K mg base 1 "_law_cup" ["spring", "many"] (spM K (fun (z : Spr) (a : Int × Unit) => lawCup z a.1) (fun z a => 0 < a.1 ∧ a.1 < 1073741824))) (c__law_gives_way : Cal P w K mg base 26 "_law_gives_way" ["sheet", "free", "taken", "asked"] (spGW K (fun x fr z y => gw fr 25 x (z, y)) (GwP 25))) (c__law_last : Cal P w K mg base 1 "_law_last" ["trail", "sheet", "stop"] (spF K (fun a : (List (Tp Int)) × Int × Int × Unit => lastW a.1 a.2.2.1 a.2.1) (fun a => TrOk a.1 ∧ 0 ≤ a.2.2.1))) (c__law_spring : Cal P w K mg base 1 "_law_spring" ["script", "k"] (spSpring K)) (c__law_trace : Cal P w K mg base 2 "_law_trace" ["spring", "n", "most"] (spRS K (fun (a : Int × Int × Unit) (y : (List (Tp Int))) => TrLaw a.1 a.2.1 y) (fun a => 1 ≤ a.1 ∧ a.1 ≤ 12 ∧ 0 ≤ a.2.1 ∧ a.2.1 ≤ 1000))) (c_bars : Cal P w K mg base 3 "bars" ["n", "trace", "b", "s", "stop", "t"] (spF K (fun a : Int × (List (Tp Int)) × Int × Int × Int × Int × Unit => barsM a.1 a.2.1 a.2.2.1 a.2.2.2.1 a.2.2.2.2.1 a.2.2.2.2.2.1) (fun a => -5 ≤ a.2.2.2.2.1 ∧ a.1 ≤ 1000 ∧ 0 ≤ a.1 ∧ TrOk a.2.1 ∧ 0 ≤ a.2.2.1 ∧ a.2.2.1 ≤ 1000 ∧ a.2.2.2.2.1 ≤ 100000))) (c_is_plan : Cal P w K mg base 3 "is_plan" ["n", "trace", "b", "s", "plan"] (spF K (fun a : Int × (List (Tp Int)) × Int × Int × ((List (Int × Int)) × Int) × Unit => isPlanM a.1 a.2.1 a.2.2.1 a.2.2.2.1 a.2.2.2.2.1) (fun a => 0 ≤ a.1 ∧ a.1 ≤ 1000 ∧ TrOk a.2.1 ∧ a.2.2.2.2.1.1.length < 64 ∧ -1000 ≤ a.2.2.2.2.1.2 ∧ a.2.2.2.2.1.2 ≤ 1000000000000000000000000000000000000000000000000000000000000))) (c_least_left : Cal P w K mg base 3 "least_left" ["n", "trace", "b", "stop"] (spF K (fun a : Int × (List (Tp Int)) × Int × Int × Unit => leastM a.1 a.2.1 a.2.2.1 a.2.2.2.1) (fun a => 0 ≤ a.1 ∧ a.1 ≤ 60 ∧ TrOk a.2.1 ∧ 0 ≤ a.2.2.1 ∧ a.2.2.1 ≤ 1000 ∧ 0 ≤ a.2.2.2.1 ∧ a.2.2.2.1 ≤ 100000))) (c_plan_for : Cal P w K mg base 4 "plan_for" ["n", "trace", "b", "s", "stop"] (spN K (fun a : Int × (List (Tp Int)) × Int × Int × Int × Unit => planM a.1 a.2.1 a.2.2.1 a.2.2.2.1 a.2.2.2.2.1) (fun a => 0 ≤ a.1 ∧ a.1 ≤ 60 ∧ TrOk a.2.1 ∧ 0 < a.2.2.1 ∧ a.2.2.1 ≤ 1000 ∧ 0 ≤ a.2.2.2.2.1 ∧ a.2.2.2.2.1 ≤ 100000))) : FnOk P w K mg base CX0 28 fa fd ["script"] (spLaw K) := by
  have nd := sc_law.nd
  refine fn_law (k := 27) F sc_law fun cdv A outer s H E hr => ?_
  refine ⟨_, pss_cons (ps_for PassesOwn.never rfl (pi_range1 (by rfl) T.n_range (pa_cons (pe_callB (call_maxG rfl) (by rfl) T.n_max (by decide +kernel) (pa_cons (pe_int) (pa_cons (pe_callB (call_minG rfl) (by rfl) T.n_min (by decide +kernel) (pa_cons (pe_int) (pa_cons (pe_callB call_lenG (by rfl) T.n_len (by decide +kernel) (pa_cons (pv 0) pa_nil)) pa_nil))) pa_nil))) pa_nil)) (pg_name (i := 1) nd rfl (.inl rfl))
      (pss_cons (ps_set (i := 2) nd rfl (.inl rfl) (pe_cal c__law_spring hr (by decide) (by rfl) (pa_cons (pv 0) (pa_cons (pv 1) pa_nil))))
      (pss_cons (ps_set (i := 3) nd rfl (.inl rfl) (pe_op op_add (pe_int) (pe_cal c__law_cup hr (by decide) (by rfl) (pa_cons (pv 2) (pa_cons (pe_int) pa_nil)))))
      (pss_cons (ps_set (i := 4) nd rfl (.inl rfl) (pe_op op_add (pe_int) (pe_cal c__law_cup hr (by decide) (by rfl) (pa_cons (pv 2) (pa_cons (pe_int) pa_nil)))))
      (pss_cons (ps_set (i := 5) nd rfl (.inl rfl) (pe_cal c__law_trace hr (by decide) (by rfl) (pa_cons (pv 2) (pa_cons (pv 3) (pa_cons (pe_int) pa_nil)))))
      (pss_cons (ps_set (i := 6) nd rfl (.inl rfl) (pe_cal c__law_cup hr (by decide) (by rfl) (pa_cons (pv 2) (pa_cons (pe_int) pa_nil))))
      (pss_cons (ps_set (i := 7) nd rfl (.inr rfl) (pe_lst (pa_nil)))
      (pss_cons (ps_for PassesOwn.never rfl (pi_range1 (by rfl) T.n_range (pa_cons (pv 3) pa_nil)) (pg_name (i := 8) nd rfl (.inl rfl))
      (pss_cons (ps_expr (pe_bm PySem.F.plainAttrs_list PySem.F.slot_list_append PySem.F.type_list_append mt_append (pv 7) (pa_cons (pe_listRg rfl (by rfl) T.n_list (prg_2 (by rfl) T.n_range (pe_op op_mul (pv 4) (pe_op op_add (pe_cal c__law_last hr (by decide) (by rfl) (pa_cons (pv 5) (pa_cons (pv 8) (pa_cons (pv 6) pa_nil)))) (pe_int))) (pe_op op_mul (pv 4) (pv 6)))) pa_nil)))
      (pss_nil)))
      (pss_cons (ps_set (i := 9) nd rfl (.inr rfl) pe_dnewK)
      (pss_cons (ps_set (i := 10) nd rfl (.inl rfl) (pe_callB call_lenG (by rfl) T.n_len (by decide +kernel) (pa_cons (pe_lc (own := [("sheet", 8)]) (g := gName 8) (by rfl) nd (pi_range1 (by rfl) T.n_range (pa_cons (pv 3) pa_nil)) (blkOk_by (N := ["script", "k", "spring", "n", "b", "trail", "stop", "free", "sheet", "taken", "matched", "least", "t", "word", "copies"]) (sc := defScope s_law) (by decide +kernel)) (fun _ _ _ _ _ => pg_name (i := 8) nd rfl (.inl rfl) (.inr rfl)) (fun _ _ _ _ _ => pts_one (pt_val (pe_cal c__law_gives_way hr (by decide) (by rfl) (pa_cons (pv 8) (pa_cons (pv 7) (pa_cons (pv 9) (pa_cons (pe_dnewK) pa_nil))))))) (fun _ _ _ _ _ => pv 8)) pa_nil)))
      (pss_cons (ps_asg (pe_cal c_least_left hr (by decide) (by rfl) (pa_cons (pv 3) (pa_cons (pv 5) (pa_cons (pv 4) (pa_cons (pv 6) pa_nil))))) (pg_tup rfl (pgs_cons (pg_name (i := 11) nd rfl (.inl rfl)) (pgs_cons (pg_name (i := 12) nd rfl (.inl rfl)) (pgs_nil)))))
      (pss_cons (ps_if (pt_cmpR op_ne (pv 11) (pe_op op_sub (pv 3) (pv 10)) (nomark _)) (pss_cons ps_never (pss_nil)) (pss_nil))
      (pss_cons (ps_asg (pe_cal c_plan_for hr (by decide) (by rfl) (pa_cons (pv 3) (pa_cons (pv 5) (pa_cons (pv 4) (pa_cons (pv 11) (pa_cons (pv 6) pa_nil)))))) (pg_tup rfl (pgs_cons (pg_name (i := 13) nd rfl (.inl rfl)) (pgs_cons (pg_name (i := 14) nd rfl (.inl rfl)) (pgs_nil)))))
      (pss_cons (ps_if (PW.pt (pw_or (pt_cmpR op_ne (pv 13) (pe_str) (nomark _)) (pw_or1 (pt_cmpR op_notBl (pe_cal c_is_plan hr (by decide) (by rfl) (pa_cons (pv 3) (pa_cons (pv 5) (pa_cons (pv 4) (pa_cons (pv 11) (pa_cons (pe_tup (pa_cons (pv 14) (pa_cons (pv 6) pa_nil))) pa_nil)))))) (pe_bl) (nomark _))))) (pss_cons ps_never (pss_nil)) (pss_nil))
      (Evl.pss_cut (ps_if (pt_cmpR op_gt (pv 11) (pe_int) (nomark _)) (pss_cons (ps_asg (pe_cal c_plan_for hr (by decide) (by rfl) (pa_cons (pv 3) (pa_cons (pv 5) (pa_cons (pv 4) (pa_cons (pe_op op_sub (pv 11) (pe_int)) (pa_cons (pv 6) pa_nil)))))) (pg_tup rfl (pgs_cons (pg_name (i := 13) nd rfl (.inl rfl)) (pgs_cons (pg_name (i := 12) nd rfl (.inl rfl)) (pgs_nil)))))
      (pss_cons (ps_if (PW.pt (pw_or (pt_cmpR op_ne (pv 13) (pe_str) (nomark _)) (pw_or1 (pt_cmpR op_notBl (pe_cal c_bars hr (by decide) (by rfl) (pa_cons (pv 3) (pa_cons (pv 5) (pa_cons (pv 4) (pa_cons (pe_op op_sub (pv 11) (pe_int)) (pa_cons (pv 6) (pa_cons (pv 12) pa_nil))))))) (pe_bl) (nomark _))))) (pss_cons ps_never (pss_nil)) (pss_nil))
      (pss_nil))) (pss_nil))
      (pss_nil))))))))))))))))
      (pss_cons (ps_ret (pe_bl))
      (pss_nil)), ?_⟩
  intro script hpre B S0 Q hret
  show At _ _ _ _ [.im script, .no, .no, .no, .no, .no, .no, .no, .no, .no, .no, .no, .no, .no, .no]
  refine qg_inv (fun st_ : Unit => [.im script, .no, .no, .no, .no, .no, .no, .no, .no, .no, .no, .no, .no, .no, .no]) (fun _ (_ : Unit) => True) () (it_rng1 (ev_max (ev_int) (ev_min (ev_int) (ev_lenS (ev_var (i := 0) rfl)))) (by first | omega | (dsimp only; omega))) (.k (.d (.d (.d (.d (.d (.d (.d (.d (.d (.d (.d (.d (.d (.d .n))))))))))))))) (by trivial) (fun pre0 k post0 s0 ex0 hs0 Sb0 rb0 => ⟨_, _, tg_name rfl, ?_⟩) (fun s0 hs0 => ?_)
  ·
    show At _ _ _ _ [.im script, .im k, .no, .no, .no, .no, .no, .no, .no, .no, .no, .no, .no, .no, .no]
    obtain ⟨_, _, hk0, hk1⟩ := rng_pre ex0
    refine q_spring 2 (ea_cons (ev_var (i := 0) rfl) (ea_cons (ev_var (i := 1) rfl) (ea_nil))) (by omega) rfl fun spring => ?_
    refine qg_set 3 (ev_i0 (ev_int) (ev_callM (i := 2) rfl (ea_cons (ev_int) (ea_nil)) rfl (by refine ⟨?_, ?_⟩ <;> first | decide | omega | (dsimp only; omega)))) rfl fun n h_n => ?_
    refine at_genO 2 rfl fun spring1 h_spring1 => ?_
    obtain ⟨d, e_d, l_d, u_d, a_spring1⟩ := cup_ex' h_spring1 (by first | decide | omega | (dsimp only; omega))
    rw [e_d] at h_n
    clear e_d h_spring1; (try dsimp only at u_d)
    show At _ _ _ _ [.im script, .im k, .ow spring1, .im n, .no, .no, .no, .no, .no, .no, .no, .no, .no, .no, .no]
    refine qg_set 4 (ev_i0 (ev_int) (ev_callM (i := 2) rfl (ea_cons (ev_int) (ea_nil)) rfl (by refine ⟨?_, ?_⟩ <;> first | decide | omega | (dsimp only; omega)))) rfl fun b h_b => ?_
    refine at_genO 2 rfl fun spring2 h_spring2 => ?_
    obtain ⟨d1, e_d1, l_d1, u_d1, a_spring2⟩ := cup_ex' h_spring2 (by first | decide | omega | (dsimp only; omega))
    rw [e_d1] at h_b
    clear e_d1 h_spring2; (try dsimp only at u_d1)
    show At _ _ _ _ [.im script, .im k, .ow spring2, .im n, .im b, .no, .no, .no, .no, .no, .no, .no, .no, .no, .no]
    show At _ _ _ _ [.im script, .im k, .ow spring2, .im n, .im b, .no, .no, .no, .no, .no, .no, .no, .no, .no, .no]
    refine q_rel 2 rfl (ea_cons (ev_var (i := 3) rfl) (ea_cons (ev_int) (ea_nil))) rfl (by ((try dsimp only) <;> (repeat' (first | assumption | omega | refine And.intro ?_ ?_)) <;> first | trivial | assumption | omega | decide | simp)) fun trail spring3 hR_trail a_spring3 => ⟨_, _, tg_name rfl, ?_⟩
    show At _ _ _ _ [.im script, .im k, .ow spring3, .im n, .im b, .im trail, .no, .no, .no, .no, .no, .no, .no, .no, .no]
    have htr := hR_trail.ok (by dsimp only; omega) (by show (10 : Int) ≤ 100000; decide)
    have hlen := hR_trail.len
    dsimp only at hlen
    refine qg_set 6 (ev_callM (i := 2) rfl (ea_cons (ev_int) (ea_nil)) rfl (by refine ⟨?_, ?_⟩ <;> first | decide | omega | (dsimp only; omega))) rfl fun stop h_stop => ?_
    refine at_genO 2 rfl fun spring4 h_spring4 => ?_
    obtain ⟨d2, e_d2, l_d2, u_d2, a_spring4⟩ := cup_ex' h_spring4 (by first | decide | omega | (dsimp only; omega))
    rw [e_d2] at h_stop
    clear e_d2 h_spring4; (try dsimp only at u_d2)
    show At _ _ _ _ [.im script, .im k, .ow spring4, .im n, .im b, .im trail, .im stop, .no, .no, .no, .no, .no, .no, .no, .no]
    refine qg_own 7 (el_lst (els_nil (α := (List Int))) (by simp)) rfl fun free h_free => ?_
    refine qg_fold (fun st_ : (List (List Int)) => [.im script, .im k, .ow spring4, .im n, .im b, .im trail, .im stop, .ow st_, .no, .no, .no, .no, .no, .no, .no]) (fun f x => f ++ [rng (b * (lastW trail stop x + 1)) (b * stop)]) free (it_rng1 (ev_var (i := 3) rfl) (by first | omega | (dsimp only; omega))) (.k (.k (.k (.k (.k (.k (.k (.k (.d (.d (.d (.d (.d (.d (.d .n))))))))))))))) (fun pre1 sheet post1 s1 ex1 hs1 Sb1 rb1 => ⟨_, _, tg_name rfl, ?_⟩) (fun s1 hs1 => ?_)
    ·
      show At _ _ _ _ [.im script, .im k, .ow spring4, .im n, .im b, .im trail, .im stop, .ow s1, .im sheet, .no, .no, .no, .no, .no, .no]
      have hmx := mem_rng.mp (show sheet ∈ rng 0 n by rw [← ex1]; simp)
      have hw1 : -1 ≤ lastW trail stop sheet := lastW_ge trail stop sheet
      have hw2 : lastW trail stop sheet < stop := lastW_lt (by omega)
      have hb1 : 0 ≤ b * (lastW trail stop sheet + 1) := Int.mul_nonneg (by omega) (by omega)
      have hb2 : b * (lastW trail stop sheet + 1) ≤ b * stop := Int.mul_le_mul_of_nonneg_left (by omega) (by omega)
      have hb3 : b * stop ≤ 2 * 12 := Int.mul_le_mul (by omega) (by omega) (by omega) (by omega)
      have hl1 : s1.length = pre1.length := by rw [hs1, h_free, fold_free, List.nil_append, List.length_map]
      have hl2 : pre1.length ≤ 6 := by
        have := congrArg List.length ex1
        rw [len_rng, List.length_append, List.length_cons] at this
        omega
      refine qg_app 7 rfl (EvL.ev (el_rng2 (ev_iC (ev_var (i := 4) rfl) (ev_i0 (ev_call (ea_cons (ev_var (i := 5) rfl) (ea_cons (ev_var (i := 8) rfl) (ea_cons (ev_var (i := 6) rfl) (ea_nil)))) (by exact ⟨htr, by (try dsimp only); omega⟩)) (ev_int)) (by first | exact .inl ⟨by decide, by decide⟩ | exact .inr ⟨by decide, by decide⟩ | exact .inl ⟨by omega, by omega⟩ | exact .inr ⟨by omega, by omega⟩)) (ev_iC (ev_var (i := 4) rfl) (ev_var (i := 6) rfl) (by first | exact .inl ⟨by decide, by decide⟩ | exact .inr ⟨by decide, by decide⟩ | exact .inl ⟨by omega, by omega⟩ | exact .inr ⟨by omega, by omega⟩)) (by exact ⟨by (try dsimp only); omega, by (try dsimp only); omega, by (try dsimp only); omega, by (try dsimp only); omega, by (try dsimp only); omega⟩))) rfl (by exact lt_line (by omega)) fun free1 h_free1 => ?_
      exact q_next (at_mid (.k (.k (.k (.k (.k (.k (.k (.k (.d (.d (.d (.d (.d (.d (.d .n))))))))))))))) (by subst_vars; rfl))
    ·
      show At _ _ _ _ [.im script, .im k, .ow spring4, .im n, .im b, .im trail, .im stop, .ow s1, .no, .no, .no, .no, .no, .no, .no]
      have hfr : s1 = freeM n trail b stop := by rw [hs1, h_free, fold_free, List.nil_append]; unfold freeM; rfl
      have hb0 : 0 ≤ b * stop := Int.mul_nonneg (by omega) (by omega)
      have hb3 : b * stop ≤ 2 * 12 := Int.mul_le_mul (by omega) (by omega) (by omega) (by omega)
      have F := frees21 (n := n) (trail := trail) (b := b) (stop := stop) (by omega) (by omega)
      have hln := los_len (n := n) (trail := trail) (b := b) (stop := stop) (by omega)
      refine at_relL (i := 7) rfl ?_
      refine q_dnew Int (i := 9) rfl ?_
      refine at_genO 9 rfl fun taken h_taken => ?_
      show At _ _ _ _ [.im script, .im k, .ow spring4, .im n, .im b, .im trail, .im stop, .im s1, .no, .ow taken, .no, .no, .no, .no, .no]
      refine qg_set 10 (ev_len (EvL.c (el_lcTP (fun st_ : (Dct Int) => [.im script, .im k, .ow spring4, .im n, .im b, .im trail, .im stop, .im s1, .no, .ow st_, .no, .no, .no, .no, .no]) _ (fun st_ x => (mtS s1 25 st_ x)) (fun st_ x => (mtF s1 25 st_ x)) (fun x => x) (it_rng1 (ev_var (i := 3) rfl) (by first | omega | (dsimp only; omega))) (by first | omega | (dsimp only; omega) | (rw [len_rng]; omega) | (rw [len_rng]; exact le_line (by omega))) (fun pre_ x post_ ex_ st_ hst_ => ⟨_, _, tg_name rfl, (by decide), _, et_B (ev_callGW0 (i := 9) (ev_var (i := 8) rfl) (ev_var (i := 7) rfl) rfl (by
have hxm : x ∈ rng 0 n := by rw [← ex_]; simp
rw [hfr]
exact ⟨_, _, F, by omega, by rw [hst_, h_taken, hfr]; exact mt_tk F (by omega) hb0 pre_ (fun y hy => by rw [hln]; exact mem_rng.mp (by rw [← ex_]; exact List.mem_append_left _ hy)), Dct.Ok.emp, by rw [hln]; exact mem_rng.mp hxm, by omega, by show _ < ((25 : Nat) : Int) + ((0 : Nat) : Int); omega⟩)), fun hf_x => ev_var (i := 8) rfl, .b rfl (.b rfl (.a (by decide) (.b rfl (.b rfl (.b rfl (.b rfl (.b rfl (.b rfl (.a (by decide) (.b rfl (.b rfl (.b rfl (.b rfl (.b rfl (.n)))))))))))))))⟩)))) rfl fun matched h_matched => ?_
      refine at_genO 9 rfl fun taken1 h_taken1 => ?_
      show At _ _ _ _ [.im script, .im k, .ow spring4, .im n, .im b, .im trail, .im stop, .im s1, .no, .ow taken1, .im matched, .no, .no, .no, .no]
      have hmt : matched = ((mtM (freeM n trail b stop) 25 (rng 0 n)).length : Int) := by rw [h_matched, hfr, h_taken]; unfold mtM; rfl
      clear h_matched
      refine qg_pair 11 12 (ev_call (ea_cons (ev_var (i := 3) rfl) (ea_cons (ev_var (i := 5) rfl) (ea_cons (ev_var (i := 4) rfl) (ea_cons (ev_var (i := 6) rfl) (ea_nil))))) (by exact ⟨by (try dsimp only); omega, by (try dsimp only); omega, htr, by (try dsimp only); omega, by (try dsimp only); omega, by (try dsimp only); omega, by (try dsimp only); omega⟩)) rfl rfl fun least t h_least h_t => ?_
      have hq := matched_eq (n := n) (trail := trail) (b := b) (stop := stop) (k := 25) (by omega) (by omega) (by omega) (by omega)
      have hle : least = (leastM n trail b stop).1 := h_least
      have hL : 0 ≤ (leastM n trail b stop).1 := (least_spec (n := n) (b := b) (stop := stop) (trace := trail) (by omega) (by omega)).1
      have hln2 : (leastM n trail b stop).1 ≤ n := by omega
      obtain ⟨cs, hcs, good⟩ : ∃ cs, planM n trail b least stop = (Str.ofString "plan", Sum.inl cs) ∧ GoodC n trail b least stop cs := ⟨_, plan_plan (by omega), plan_good (by omega) (by omega) (by omega) (by omega) (by omega) (by omega)⟩
      have hgl := good.len
      have hip := good.isPlan (by omega) (by omega) (by omega)
      have hbar : 0 < least → ∃ t, planM n trail b (least - 1) stop = (Str.ofString "barred", Sum.inr (some t)) ∧ -1 ≤ t ∧ t < stop ∧ least - 1 < lackM (lastsM n trail stop) b stop t := fun h => plan_bar (by omega) (by omega) (by omega) (by omega)
      clear h_least
      refine q_ifF (et_test (ev_ne (ev_var (i := 11) rfl) (ev_i0 (ev_var (i := 3) rfl) (ev_var (i := 10) rfl)))) ?_ ?_
      · rw [hmt, hle, hq]; simp
      refine qg_pair 13 14 (ev_callN (ea_cons (ev_var (i := 3) rfl) (ea_cons (ev_var (i := 5) rfl) (ea_cons (ev_var (i := 4) rfl) (ea_cons (ev_var (i := 11) rfl) (ea_cons (ev_var (i := 6) rfl) (ea_nil)))))) (by exact ⟨by (try dsimp only); omega, by (try dsimp only); omega, htr, by (try dsimp only); omega, by (try dsimp only); omega, by (try dsimp only); omega, by (try dsimp only); omega⟩)) rfl rfl fun word copies h_word h_copies => ?_
      refine q_ifF (et_or (et_test (ev_ne (ev_var (i := 13) rfl) (ev_str))) (fun hc => et_test (ev_nisB (ev_call (ea_cons (ev_var (i := 3) rfl) (ea_cons (ev_var (i := 5) rfl) (ea_cons (ev_var (i := 4) rfl) (ea_cons (ev_var (i := 11) rfl) (ea_cons (ev_pair (EvX.lG (ev_var (i := 14) rfl) (by dsimp only at h_copies ⊢; rw [h_copies, hcs]; rfl)) (ev_var (i := 6) rfl)) (ea_nil)))))) (by dsimp only at h_copies ⊢; rw [h_copies, hcs]; exact ⟨by (try dsimp only); omega, by (try dsimp only); omega, htr, show cs.length < 64 by omega, by (try dsimp only); omega, by (try dsimp only); omega⟩)) (ev_bl)))) ?_ ?_
      · have e1 : word = Str.ofString "plan" := by rw [h_word]; exact congrArg (·.1) hcs
        have e2 : copies = Sum.inl cs := by rw [h_copies]; exact congrArg (·.2) hcs
        rw [e1, e2]
        show (!decide (Str.ofString "plan" = Str.ofString "plan") || !decide (isPlanM n trail b least (cs, stop) = true)) = false
        rw [decide_eq_true hip, decide_eq_true rfl]
        rfl
      refine q_cut1 [.im script, .im k, .ow spring4, .im n, .im b, .im trail, .im stop, .im s1, .no, .ow taken1, .im matched, .im least, .no, .no, .im copies] ?_ ?_
      · refine q_ifc (et_test (ev_b0 (ev_var (i := 11) rfl) (ev_int))) (fun hb2 => ?_) (fun hb2 => ?_)
        ·
          refine qg_pair 13 12 (ev_callN (ea_cons (ev_var (i := 3) rfl) (ea_cons (ev_var (i := 5) rfl) (ea_cons (ev_var (i := 4) rfl) (ea_cons (ev_i0 (ev_var (i := 11) rfl) (ev_int)) (ea_cons (ev_var (i := 6) rfl) (ea_nil)))))) (by exact ⟨by (try dsimp only); omega, by (try dsimp only); omega, htr, by (try dsimp only); omega, by (try dsimp only); omega, by (try dsimp only); omega, by (try dsimp only); omega⟩)) rfl rfl fun word1 t1 h_word1 h_t1 => ?_
          show At _ _ _ _ [.im script, .im k, .ow spring4, .im n, .im b, .im trail, .im stop, .im s1, .no, .ow taken1, .im matched, .im least, .im t1, .im word1, .im copies]
          refine q_ifF (et_or (et_test (ev_ne (ev_var (i := 13) rfl) (ev_str))) (fun hc => et_test (ev_nisB (ev_call (ea_cons (ev_var (i := 3) rfl) (ea_cons (ev_var (i := 5) rfl) (ea_cons (ev_var (i := 4) rfl) (ea_cons (ev_i0 (ev_var (i := 11) rfl) (ev_int)) (ea_cons (ev_var (i := 6) rfl) (ea_cons (EvX.get (α := Int) (EvX.rG (ev_var (i := 12) rfl) (by obtain ⟨t, e, g1, g2, g3⟩ := hbar (of_decide_eq_true hb2); dsimp only at h_t1 ⊢; rw [h_t1, e]; rfl)) (by obtain ⟨t, e, g1, g2, g3⟩ := hbar (of_decide_eq_true hb2); dsimp only at h_t1 ⊢; rw [h_t1, e]; rfl)) (ea_nil))))))) (by exact ⟨by (try dsimp only); omega, by (try dsimp only); omega, by (try dsimp only); omega, htr, by (try dsimp only); omega, by (try dsimp only); omega, by (try dsimp only); omega⟩)) (ev_bl)))) ?_ ?_
          · obtain ⟨t', e, g1, g2, g3⟩ := hbar (of_decide_eq_true hb2)
            have e1 : word1 = Str.ofString "barred" := by rw [h_word1]; exact congrArg (·.1) e
            have e2 : t1 = Sum.inr (some t') := by rw [h_t1]; exact congrArg (·.2) e
            have hbm : barsM n trail b (least - 1) stop t' = true := by unfold barsM; rw [if_pos (show -1 ≤ t' ∧ t' < stop from ⟨g1, g2⟩)]; exact decide_eq_true g3
            rw [e1, e2]
            show (!decide (Str.ofString "barred" = Str.ofString "barred") || !decide (barsM n trail b (least - 1) stop t' = true)) = false
            rw [decide_eq_true hbm, decide_eq_true rfl]
            rfl
          refine q_next ?_
          exact at_mid (.k (.k (.k (.k (.k (.k (.k (.k (.d (.k (.k (.k (.d (.d (.k .n))))))))))))))) (by rfl)
        ·
          refine q_next ?_
          exact at_mid (.k (.k (.k (.k (.k (.k (.k (.k (.d (.k (.k (.k (.d (.d (.k .n))))))))))))))) (by rfl)
      exact q_next (at_mid (.k (.d (.d (.d (.d (.d (.d (.d (.d (.d (.d (.d (.d (.d (.d .n))))))))))))))) ⟨(), by rfl, by trivial⟩)
  ·
    show At _ _ _ _ [.im script, .no, .no, .no, .no, .no, .no, .no, .no, .no, .no, .no, .no, .no, .no]
    exact q_ret (ev_bl) (hret _ _ (by rfl))
end
end L21

namespace L21
open PySem PySem.Spec PyProof.Rows L2 GL
theorem def_mk {K : Fg} {mg : Str → Option Value} {h : Heap} {x : Str} {st : Stmt} {ps : List Str} {f : Addr} {oc : Value} {od an : Option Addr} {osl : Array (Option Value)} {kV doc pm cdv ct : Value} (X : K.In h) (G : h.Ns mainGlobals mg) (a : PySem.W.nsIn K mainGlobals x = some (some (.ref f)))
    (l : K.lookup f = some ⟨oc, od, .func (PySem.W.fnOf x x (defArgs st) (defBody st) (defScope st) .none kV doc pm an cdv ct), osl⟩) (c : PySem.W.codeIn K cdv x = true) (k : PySem.W.keepIn K (.ref f) = true)
    (hb : ∀ (kV doc pm : Value) (an : Option Addr) (cdv ct : Value) (us : List Value), us.length = ps.length → bindArgs (PySem.W.fnOf x x (defArgs st) (defBody st) (defScope st) .none kV doc pm an cdv ct) ⟨us, []⟩ = pure (ps.zip us)) : Def K mg x st ps :=
  ⟨f, _, PySem.W.mg_of X G a, fun_mk l c k, (fun_mk l c k).binds hb⟩
section
variable {P : Program} {w : World} {K : Fg} {mg : Str → Option Value} {base : Heap}
set_option maxHeartbeats 4000000 in
theorem all_ok {fa : Addr} {fd : FuncData} (T : Tx K mg) (F : Fun K "law" "law" s_law fa fd) : FnOk P w K mg base CX0 28 fa fd ["script"] (spLaw K) := by
  have c__law_spring : Cal P w K mg base 1 "_law_spring" ["script", "k"] (spSpring K) := ok__law_spring T 
  have c__law_cup : Cal P w K mg base 1 "_law_cup" ["spring", "many"] (spM K (fun (z : Spr) (a : Int × Unit) => lawCup z a.1) (fun z a => 0 < a.1 ∧ a.1 < 1073741824)) := ok__law_cup T 
  have c__law_trace : Cal P w K mg base 2 "_law_trace" ["spring", "n", "most"] (spRS K (fun (a : Int × Int × Unit) (y : (List (Tp Int))) => TrLaw a.1 a.2.1 y) (fun a => 1 ≤ a.1 ∧ a.1 ≤ 12 ∧ 0 ≤ a.2.1 ∧ a.2.1 ≤ 1000)) := ok__law_trace T c__law_cup
  have c_written_in : Cal P w K mg base 1 "written_in" ["trace", "start", "stop"] (spF K (fun a : (List (Tp Int)) × Int × Int × Unit => writtenIn a.1 a.2.1 a.2.2.1) (fun a => TrOk a.1 ∧ 0 ≤ a.2.1 ∧ a.2.1 ≤ 100000 ∧ -1000 ≤ a.2.2.1 ∧ a.2.2.1 ≤ 1000000000000000000000000000000000000000000000000000000000000)) := ok_written_in T 
  have c_last_writings : Cal P w K mg base 2 "last_writings" ["n", "trace", "stop"] (spF K (fun a : Int × (List (Tp Int)) × Int × Unit => lastsM a.1 a.2.1 a.2.2.1) (fun a => 0 ≤ a.1 ∧ a.1 ≤ 1000 ∧ TrOk a.2.1 ∧ 0 ≤ a.2.2.1 ∧ a.2.2.1 ≤ 100000)) := ok_last_writings T c_written_in
  have c_lack : Cal P w K mg base 1 "lack" ["lasts", "b", "stop", "t"] (spF K (fun a : (List Int) × Int × Int × Int × Unit => lackM a.1 a.2.1 a.2.2.1 a.2.2.2.1) (fun a => a.1.length ≤ 1000000 ∧ 0 ≤ a.2.1 ∧ a.2.1 ≤ 1000)) := ok_lack T 
  have c_bars : Cal P w K mg base 3 "bars" ["n", "trace", "b", "s", "stop", "t"] (spF K (fun a : Int × (List (Tp Int)) × Int × Int × Int × Int × Unit => barsM a.1 a.2.1 a.2.2.1 a.2.2.2.1 a.2.2.2.2.1 a.2.2.2.2.2.1) (fun a => -5 ≤ a.2.2.2.2.1 ∧ a.1 ≤ 1000 ∧ 0 ≤ a.1 ∧ TrOk a.2.1 ∧ 0 ≤ a.2.2.1 ∧ a.2.2.1 ≤ 1000 ∧ a.2.2.2.2.1 ≤ 100000)) := ok_bars T c_lack c_last_writings
  have c_least_left : Cal P w K mg base 3 "least_left" ["n", "trace", "b", "stop"] (spF K (fun a : Int × (List (Tp Int)) × Int × Int × Unit => leastM a.1 a.2.1 a.2.2.1 a.2.2.2.1) (fun a => 0 ≤ a.1 ∧ a.1 ≤ 60 ∧ TrOk a.2.1 ∧ 0 ≤ a.2.2.1 ∧ a.2.2.1 ≤ 1000 ∧ 0 ≤ a.2.2.2.1 ∧ a.2.2.2.1 ≤ 100000)) := ok_least_left T c_lack c_last_writings
  have c_plan_for : Cal P w K mg base 4 "plan_for" ["n", "trace", "b", "s", "stop"] (spN K (fun a : Int × (List (Tp Int)) × Int × Int × Int × Unit => planM a.1 a.2.1 a.2.2.1 a.2.2.2.1 a.2.2.2.2.1) (fun a => 0 ≤ a.1 ∧ a.1 ≤ 60 ∧ TrOk a.2.1 ∧ 0 < a.2.2.1 ∧ a.2.2.1 ≤ 1000 ∧ 0 ≤ a.2.2.2.2.1 ∧ a.2.2.2.2.1 ≤ 100000)) := ok_plan_for T c_last_writings c_least_left
  have c_left_by : Cal P w K mg base 2 "left_by" ["n", "trace", "plan"] (spN K (fun a : Int × (List (Tp Int)) × ((List (Int × Int)) × Int) × Unit => leftM a.1 a.2.1 a.2.2.1) (fun a => 0 ≤ a.1 ∧ a.1 ≤ 1000 ∧ TrOk a.2.1 ∧ a.2.2.1.1.length ≤ 1000 ∧ -1000 ≤ a.2.2.1.2 ∧ a.2.2.1.2 ≤ 1000000000000000000000000000000000000000000000000000000000000)) := ok_left_by T c_written_in
  have c_is_plan : Cal P w K mg base 3 "is_plan" ["n", "trace", "b", "s", "plan"] (spF K (fun a : Int × (List (Tp Int)) × Int × Int × ((List (Int × Int)) × Int) × Unit => isPlanM a.1 a.2.1 a.2.2.1 a.2.2.2.1 a.2.2.2.2.1) (fun a => 0 ≤ a.1 ∧ a.1 ≤ 1000 ∧ TrOk a.2.1 ∧ a.2.2.2.2.1.1.length < 64 ∧ -1000 ≤ a.2.2.2.2.1.2 ∧ a.2.2.2.2.1.2 ≤ 1000000000000000000000000000000000000000000000000000000000000)) := ok_is_plan T c_left_by
  have c__law_last : Cal P w K mg base 1 "_law_last" ["trail", "sheet", "stop"] (spF K (fun a : (List (Tp Int)) × Int × Int × Unit => lastW a.1 a.2.2.1 a.2.1) (fun a => TrOk a.1 ∧ 0 ≤ a.2.2.1)) := ok__law_last T 
  have c__law_gives_way : Cal P w K mg base 26 "_law_gives_way" ["sheet", "free", "taken", "asked"] (spGW K (fun x fr z y => gw fr 25 x (z, y)) (GwP 25)) := ok__law_gives_way T 
  exact ok_law T F c__law_cup c__law_gives_way c__law_last c__law_spring c__law_trace c_bars c_is_plan c_least_left c_plan_for
end
set_option maxHeartbeats 4000000 in
theorem all_mk {l : PySem.W.OpenLaw} {w : World} {K : Fg} {h : Heap} {mg : Str → Option Value} {fa f0 f1 f2 f3 f4 f5 f6 f7 f8 f9 f10 f11 f12 f13 : Addr} (X : K.In h) (G : h.Ns mainGlobals mg) (hfa : mg "law" = some (.ref fa))
    {od0 an0 : Option Addr} {sl0 : Array (Option Value)} {oc0 kV0 dc0 pm0 cd0 ct0 : Value}
    (a0 : PySem.W.nsIn K mainGlobals "written_in" = some (some (.ref f0))) (l0 : K.lookup f0 = some ⟨oc0, od0, .func (PySem.W.fnOf "written_in" "written_in" (defArgs s_written_in) (defBody s_written_in) (defScope s_written_in) .none kV0 dc0 pm0 an0 cd0 ct0), sl0⟩) (c0 : PySem.W.codeIn K cd0 "written_in" = true) (k0 : PySem.W.keepIn K (.ref f0) = true)
    {od1 an1 : Option Addr} {sl1 : Array (Option Value)} {oc1 kV1 dc1 pm1 cd1 ct1 : Value}
    (a1 : PySem.W.nsIn K mainGlobals "last_writings" = some (some (.ref f1))) (l1 : K.lookup f1 = some ⟨oc1, od1, .func (PySem.W.fnOf "last_writings" "last_writings" (defArgs s_last_writings) (defBody s_last_writings) (defScope s_last_writings) .none kV1 dc1 pm1 an1 cd1 ct1), sl1⟩) (c1 : PySem.W.codeIn K cd1 "last_writings" = true) (k1 : PySem.W.keepIn K (.ref f1) = true)
    {od2 an2 : Option Addr} {sl2 : Array (Option Value)} {oc2 kV2 dc2 pm2 cd2 ct2 : Value}
    (a2 : PySem.W.nsIn K mainGlobals "lack" = some (some (.ref f2))) (l2 : K.lookup f2 = some ⟨oc2, od2, .func (PySem.W.fnOf "lack" "lack" (defArgs s_lack) (defBody s_lack) (defScope s_lack) .none kV2 dc2 pm2 an2 cd2 ct2), sl2⟩) (c2 : PySem.W.codeIn K cd2 "lack" = true) (k2 : PySem.W.keepIn K (.ref f2) = true)
    {od3 an3 : Option Addr} {sl3 : Array (Option Value)} {oc3 kV3 dc3 pm3 cd3 ct3 : Value}
    (a3 : PySem.W.nsIn K mainGlobals "bars" = some (some (.ref f3))) (l3 : K.lookup f3 = some ⟨oc3, od3, .func (PySem.W.fnOf "bars" "bars" (defArgs s_bars) (defBody s_bars) (defScope s_bars) .none kV3 dc3 pm3 an3 cd3 ct3), sl3⟩) (c3 : PySem.W.codeIn K cd3 "bars" = true) (k3 : PySem.W.keepIn K (.ref f3) = true)
    {od4 an4 : Option Addr} {sl4 : Array (Option Value)} {oc4 kV4 dc4 pm4 cd4 ct4 : Value}
    (a4 : PySem.W.nsIn K mainGlobals "least_left" = some (some (.ref f4))) (l4 : K.lookup f4 = some ⟨oc4, od4, .func (PySem.W.fnOf "least_left" "least_left" (defArgs s_least_left) (defBody s_least_left) (defScope s_least_left) .none kV4 dc4 pm4 an4 cd4 ct4), sl4⟩) (c4 : PySem.W.codeIn K cd4 "least_left" = true) (k4 : PySem.W.keepIn K (.ref f4) = true)
    {od5 an5 : Option Addr} {sl5 : Array (Option Value)} {oc5 kV5 dc5 pm5 cd5 ct5 : Value}
    (a5 : PySem.W.nsIn K mainGlobals "plan_for" = some (some (.ref f5))) (l5 : K.lookup f5 = some ⟨oc5, od5, .func (PySem.W.fnOf "plan_for" "plan_for" (defArgs s_plan_for) (defBody s_plan_for) (defScope s_plan_for) .none kV5 dc5 pm5 an5 cd5 ct5), sl5⟩) (c5 : PySem.W.codeIn K cd5 "plan_for" = true) (k5 : PySem.W.keepIn K (.ref f5) = true)
    {od6 an6 : Option Addr} {sl6 : Array (Option Value)} {oc6 kV6 dc6 pm6 cd6 ct6 : Value}
    (a6 : PySem.W.nsIn K mainGlobals "left_by" = some (some (.ref f6))) (l6 : K.lookup f6 = some ⟨oc6, od6, .func (PySem.W.fnOf "left_by" "left_by" (defArgs s_left_by) (defBody s_left_by) (defScope s_left_by) .none kV6 dc6 pm6 an6 cd6 ct6), sl6⟩) (c6 : PySem.W.codeIn K cd6 "left_by" = true) (k6 : PySem.W.keepIn K (.ref f6) = true)
    {od7 an7 : Option Addr} {sl7 : Array (Option Value)} {oc7 kV7 dc7 pm7 cd7 ct7 : Value}
    (a7 : PySem.W.nsIn K mainGlobals "is_plan" = some (some (.ref f7))) (l7 : K.lookup f7 = some ⟨oc7, od7, .func (PySem.W.fnOf "is_plan" "is_plan" (defArgs s_is_plan) (defBody s_is_plan) (defScope s_is_plan) .none kV7 dc7 pm7 an7 cd7 ct7), sl7⟩) (c7 : PySem.W.codeIn K cd7 "is_plan" = true) (k7 : PySem.W.keepIn K (.ref f7) = true)
    {od8 an8 : Option Addr} {sl8 : Array (Option Value)} {oc8 kV8 dc8 pm8 cd8 ct8 : Value}
    (a8 : PySem.W.nsIn K mainGlobals "_law_spring" = some (some (.ref f8))) (l8 : K.lookup f8 = some ⟨oc8, od8, .func (PySem.W.fnOf "_law_spring" "_law_spring" (defArgs s__law_spring) (defBody s__law_spring) (defScope s__law_spring) .none kV8 dc8 pm8 an8 cd8 ct8), sl8⟩) (c8 : PySem.W.codeIn K cd8 "_law_spring" = true) (k8 : PySem.W.keepIn K (.ref f8) = true)
    {od9 an9 : Option Addr} {sl9 : Array (Option Value)} {oc9 kV9 dc9 pm9 cd9 ct9 : Value}
    (a9 : PySem.W.nsIn K mainGlobals "_law_cup" = some (some (.ref f9))) (l9 : K.lookup f9 = some ⟨oc9, od9, .func (PySem.W.fnOf "_law_cup" "_law_cup" (defArgs s__law_cup) (defBody s__law_cup) (defScope s__law_cup) .none kV9 dc9 pm9 an9 cd9 ct9), sl9⟩) (c9 : PySem.W.codeIn K cd9 "_law_cup" = true) (k9 : PySem.W.keepIn K (.ref f9) = true)
    {od10 an10 : Option Addr} {sl10 : Array (Option Value)} {oc10 kV10 dc10 pm10 cd10 ct10 : Value}
    (a10 : PySem.W.nsIn K mainGlobals "_law_trace" = some (some (.ref f10))) (l10 : K.lookup f10 = some ⟨oc10, od10, .func (PySem.W.fnOf "_law_trace" "_law_trace" (defArgs s__law_trace) (defBody s__law_trace) (defScope s__law_trace) .none kV10 dc10 pm10 an10 cd10 ct10), sl10⟩) (c10 : PySem.W.codeIn K cd10 "_law_trace" = true) (k10 : PySem.W.keepIn K (.ref f10) = true)
    {od11 an11 : Option Addr} {sl11 : Array (Option Value)} {oc11 kV11 dc11 pm11 cd11 ct11 : Value}
    (a11 : PySem.W.nsIn K mainGlobals "_law_last" = some (some (.ref f11))) (l11 : K.lookup f11 = some ⟨oc11, od11, .func (PySem.W.fnOf "_law_last" "_law_last" (defArgs s__law_last) (defBody s__law_last) (defScope s__law_last) .none kV11 dc11 pm11 an11 cd11 ct11), sl11⟩) (c11 : PySem.W.codeIn K cd11 "_law_last" = true) (k11 : PySem.W.keepIn K (.ref f11) = true)
    {od12 an12 : Option Addr} {sl12 : Array (Option Value)} {oc12 kV12 dc12 pm12 cd12 ct12 : Value}
    (a12 : PySem.W.nsIn K mainGlobals "_law_gives_way" = some (some (.ref f12))) (l12 : K.lookup f12 = some ⟨oc12, od12, .func (PySem.W.fnOf "_law_gives_way" "_law_gives_way" (defArgs s__law_gives_way) (defBody s__law_gives_way) (defScope s__law_gives_way) .none kV12 dc12 pm12 an12 cd12 ct12), sl12⟩) (c12 : PySem.W.codeIn K cd12 "_law_gives_way" = true) (k12 : PySem.W.keepIn K (.ref f12) = true)
    {od13 an13 : Option Addr} {sl13 : Array (Option Value)} {oc13 kV13 dc13 pm13 cd13 ct13 : Value}
    (a13 : PySem.W.nsIn K mainGlobals "law" = some (some (.ref f13))) (l13 : K.lookup f13 = some ⟨oc13, od13, .func (PySem.W.fnOf "law" "law" (defArgs s_law) (defBody s_law) (defScope s_law) .none kV13 dc13 pm13 an13 cd13 ct13), sl13⟩) (c13 : PySem.W.codeIn K cd13 "law" = true) (k13 : PySem.W.keepIn K (.ref f13) = true)
    (z0 : PySem.W.nsIn K mainGlobals "enumerate" = some none)
    (z1 : PySem.W.nsIn K mainGlobals "int" = some none)
    (z2 : PySem.W.nsIn K mainGlobals "len" = some none)
    (z3 : PySem.W.nsIn K mainGlobals "list" = some none)
    (z4 : PySem.W.nsIn K mainGlobals "max" = some none)
    (z5 : PySem.W.nsIn K mainGlobals "min" = some none)
    (z6 : PySem.W.nsIn K mainGlobals "range" = some none)
    (z7 : PySem.W.nsIn K mainGlobals "reversed" = some none)
    (z8 : PySem.W.nsIn K mainGlobals "set" = some none)
    (z9 : PySem.W.nsIn K mainGlobals "sorted" = some none)
    (z10 : PySem.W.nsIn K mainGlobals "tuple" = some none)
    : ∃ fd : FuncData, (∀ (s : Shared) (v : Value), BindsTo s fd ⟨[v], []⟩ [("script", v)]) ∧ ∀ base : Heap, K.In base → base.Ns mainGlobals mg → FnOk l.prog w K mg base CX0 28 fa fd ["script"] (spLaw K) := by
  have T : Tx K mg := ⟨def_mk X G a0 l0 c0 k0 (fun _ _ _ _ _ _ us hl => match us, hl with | [_, _, _], _ => rfl), def_mk X G a1 l1 c1 k1 (fun _ _ _ _ _ _ us hl => match us, hl with | [_, _, _], _ => rfl), def_mk X G a2 l2 c2 k2 (fun _ _ _ _ _ _ us hl => match us, hl with | [_, _, _, _], _ => rfl), def_mk X G a3 l3 c3 k3 (fun _ _ _ _ _ _ us hl => match us, hl with | [_, _, _, _, _, _], _ => rfl), def_mk X G a4 l4 c4 k4 (fun _ _ _ _ _ _ us hl => match us, hl with | [_, _, _, _], _ => rfl), def_mk X G a5 l5 c5 k5 (fun _ _ _ _ _ _ us hl => match us, hl with | [_, _, _, _, _], _ => rfl), def_mk X G a6 l6 c6 k6 (fun _ _ _ _ _ _ us hl => match us, hl with | [_, _, _], _ => rfl), def_mk X G a7 l7 c7 k7 (fun _ _ _ _ _ _ us hl => match us, hl with | [_, _, _, _, _], _ => rfl), def_mk X G a8 l8 c8 k8 (fun _ _ _ _ _ _ us hl => match us, hl with | [_, _], _ => rfl), def_mk X G a9 l9 c9 k9 (fun _ _ _ _ _ _ us hl => match us, hl with | [_, _], _ => rfl), def_mk X G a10 l10 c10 k10 (fun _ _ _ _ _ _ us hl => match us, hl with | [_, _, _], _ => rfl), def_mk X G a11 l11 c11 k11 (fun _ _ _ _ _ _ us hl => match us, hl with | [_, _, _], _ => rfl), def_mk X G a12 l12 c12 k12 (fun _ _ _ _ _ _ us hl => match us, hl with | [_, _, _, _], _ => rfl), def_mk X G a13 l13 c13 k13 (fun _ _ _ _ _ _ us hl => match us, hl with | [_], _ => rfl), PySem.W.mg_none_of X G z0, PySem.W.mg_none_of X G z1, PySem.W.mg_none_of X G z2, PySem.W.mg_none_of X G z3, PySem.W.mg_none_of X G z4, PySem.W.mg_none_of X G z5, PySem.W.mg_none_of X G z6, PySem.W.mg_none_of X G z7, PySem.W.mg_none_of X G z8, PySem.W.mg_none_of X G z9, PySem.W.mg_none_of X G z10⟩
  have e := hfa.symm.trans (PySem.W.mg_of X G a13)
  cases e
  exact ⟨PySem.W.fnOf "law" "law" (defArgs s_law) (defBody s_law) (defScope s_law) .none kV13 dc13 pm13 an13 cd13 ct13, fun s v => .of_eq rfl, fun base _ _ => all_ok T (fun_mk (st := s_law) l13 c13 k13)⟩
end L21
open PySem PySem.W PyProof.Rows in
set_option maxRecDepth 100000 in
set_option maxHeartbeats 0 in
theorem PySem.Challenge.cw_warmove_k21_whole_windows_and_matchings_holds : PySem.Challenge.rw_warmove_k21_whole_windows_and_matchings.Holds := by
  w_on; o_law; k_head; (case hw => w_witness2)
  k_fill
  refine L2.walk_of (l := PySem.Challenge.rw_warmove_k21_whole_windows_and_matchings) (n := 63) (k := 28) (x := "script") (CX := fun _ => L2.CX0) (sp := fun w => GL.spLaw _) rfl (by decide) rfl ⟨rfl, by decide, by decide⟩ (fun w h Y => PySem.W.kIn_of Y) ?F (fun _ _ a ns hl _ hS => ⟨a, ns, rfl, hS, hl, fun _ => rfl⟩) (fun _ _ _ _ _ h => h)
  case F =>
    intro w mg fa h KX G hmg
    refine' L21.all_mk KX G hmg ?a0 ?l0 ?c0 ?k0 ?a1 ?l1 ?c1 ?k1 ?a2 ?l2 ?c2 ?k2 ?a3 ?l3 ?c3 ?k3 ?a4 ?l4 ?c4 ?k4 ?a5 ?l5 ?c5 ?k5 ?a6 ?l6 ?c6 ?k6 ?a7 ?l7 ?c7 ?k7 ?a8 ?l8 ?c8 ?k8 ?a9 ?l9 ?c9 ?k9 ?a10 ?l10 ?c10 ?k10 ?a11 ?l11 ?c11 ?k11 ?a12 ?l12 ?c12 ?k12 ?a13 ?l13 ?c13 ?k13 ?z0 ?z1 ?z2 ?z3 ?z4 ?z5 ?z6 ?z7 ?z8 ?z9 ?z10
    (case a0 => k_is)
    (case l0 => k_is)
    (case c0 => k_is)
    (case k0 => k_is)
    (case a1 => k_is)
    (case l1 => k_is)
    (case c1 => k_is)
    (case k1 => k_is)
    (case a2 => k_is)
    (case l2 => k_is)
    (case c2 => k_is)
    (case k2 => k_is)
    (case a3 => k_is)
    (case l3 => k_is)
    (case c3 => k_is)
    (case k3 => k_is)
    (case a4 => k_is)
    (case l4 => k_is)
    (case c4 => k_is)
    (case k4 => k_is)
    (case a5 => k_is)
    (case l5 => k_is)
    (case c5 => k_is)
    (case k5 => k_is)
    (case a6 => k_is)
    (case l6 => k_is)
    (case c6 => k_is)
    (case k6 => k_is)
    (case a7 => k_is)
    (case l7 => k_is)
    (case c7 => k_is)
    (case k7 => k_is)
    (case a8 => k_is)
    (case l8 => k_is)
    (case c8 => k_is)
    (case k8 => k_is)
    (case a9 => k_is)
    (case l9 => k_is)
    (case c9 => k_is)
    (case k9 => k_is)
    (case a10 => k_is)
    (case l10 => k_is)
    (case c10 => k_is)
    (case k10 => k_is)
    (case a11 => k_is)
    (case l11 => k_is)
    (case c11 => k_is)
    (case k11 => k_is)
    (case a12 => k_is)
    (case l12 => k_is)
    (case c12 => k_is)
    (case k12 => k_is)
    (case a13 => k_is)
    (case l13 => k_is)
    (case c13 => k_is)
    (case k13 => k_is)
    (case z0 => k_is)
    (case z1 => k_is)
    (case z2 => k_is)
    (case z3 => k_is)
    (case z4 => k_is)
    (case z5 => k_is)
    (case z6 => k_is)
    (case z7 => k_is)
    (case z8 => k_is)
    (case z9 => k_is)
    (case z10 => k_is)
#print axioms PySem.Challenge.cw_warmove_k21_whole_windows_and_matchings_holds

