import PyProof.Rows.All
import Wide.All
import OpenK.AllK
import Wide.FinOn
import HandS.ForMost
import HandS.Evl
import HandS.Conv
import HandS.More
import HandS.SortInts
import HandS.IsInst
import HandS.TupMul
import HandS.TupAny
import HandS.TupSets
import HandS.SetFor
import HandS.List
import KE.KSortTupG
import KE.KSortTupUse
import HandS.Style
import HandS.Wide
import HandS.Exc
import HandS.ExcIs
import HandS.TryOnly
import HandS.ExcOwn
import HandS.ExcValue
import HandS.WordsExc
import HandS.TupLe
import HandS.Zip
import HandS.DictComp
import PyProof.TupleCall
import HandS.Dict
import HandS.Codes
import HandS.Text
import KE.KEqNest
import KE.GoesMore
import KE.GoesZip
import HandS.ListEq
import HandS.RaiseMore
import PySem.Challenge.RW_warmove_k52_programs_written
set_option Elab.async false
set_option linter.all false
set_option maxRecDepth 100000
/-! The G-layer: typed data over the abstract heap, an abstract state of slots, rules over it. -/
namespace GL
open PySem L2
abbrev Fg := PySem.W.Frag

/-! ### data -/
class Py (α : Type) where
  rep : Fg → Hp → V → α → Prop
  mono : ∀ {K : Fg} {H H' : Hp} {v : V} {x : α}, Same H H' → rep K H v x → rep K H' v x
instance : Py Int := ⟨fun _ _ v x => v = .int x, fun _ h => h⟩
instance : Py Bool := ⟨fun _ _ v x => v = .bl x, fun _ h => h⟩
instance : Py Str := ⟨fun _ _ v x => v = .str x, fun _ h => h⟩
instance : Py Unit := ⟨fun _ _ v _ => v = .non, fun _ h => h⟩
def RepL {α : Type} [Py α] (K : Fg) (S : Hp) : List V → List α → Prop
  | [], [] => True
  | v :: vs, x :: xs => Py.rep K S v x ∧ RepL K S vs xs
  | _, _ => False
section
variable {α : Type} [Py α] {K : Fg} {S S' : Hp}
theorem RepL.mono (e : Same S S') : ∀ {vs : List V} {xs : List α}, RepL K S vs xs → RepL K S' vs xs
  | [], [], _ => True.intro
  | _ :: _, _ :: _, h => ⟨Py.mono e h.1, RepL.mono e h.2⟩
  | [], _ :: _, h => h.elim
  | _ :: _, [], h => h.elim
theorem RepL.len : ∀ {vs : List V} {xs : List α}, RepL K S vs xs → vs.length = xs.length
  | [], [], _ => rfl
  | _ :: vs, _ :: xs, h => by rw [List.length_cons, List.length_cons, RepL.len h.2]
  | [], _ :: _, h => h.elim
  | _ :: _, [], h => h.elim
theorem RepL.app : ∀ {vs ws : List V} {xs ys : List α}, RepL K S vs xs → RepL K S ws ys → RepL K S (vs ++ ws) (xs ++ ys)
  | [], _, [], _, _, h => h
  | _ :: _, _, _ :: _, _, h, h' => ⟨h.1, RepL.app h.2 h'⟩
  | [], _, _ :: _, _, h, _ => h.elim
  | _ :: _, _, [], _, h, _ => h.elim
theorem RepL.snoc {vs : List V} {xs : List α} {v : V} {x : α} (h : RepL K S vs xs) (r : Py.rep K S v x) : RepL K S (vs ++ [v]) (xs ++ [x]) := h.app ⟨r, True.intro⟩
theorem RepL.get : ∀ {vs : List V} {xs : List α} {i : Nat} {x : α}, RepL K S vs xs → xs[i]? = some x → ∃ v, vs[i]? = some v ∧ Py.rep K S v x
  | [], [], _, _, _, e => by simp at e
  | v :: _, y :: _, 0, x, h, e => by
    simp only [List.getElem?_cons_zero, Option.some.injEq] at e
    subst e
    exact ⟨v, rfl, h.1⟩
  | _ :: vs, _ :: xs, i + 1, x, h, e => by
    obtain ⟨w, h1, h2⟩ := RepL.get (vs := vs) (xs := xs) (i := i) (x := x) h.2 (by simpa using e)
    exact ⟨w, by simpa using h1, h2⟩
  | [], _ :: _, _, _, h, _ => h.elim
  | _ :: _, [], _, _, h, _ => h.elim
theorem RepL.got {vs : List V} {xs : List α} {i : Nat} {v : V} (h : RepL K S vs xs) (e : vs[i]? = some v) : ∃ x, xs[i]? = some x ∧ Py.rep K S v x := by
  have hl := h.len
  have hi : i < xs.length := by
    rw [← hl]
    exact (List.getElem?_eq_some_iff.mp e).1
  obtain ⟨w, h1, h2⟩ := h.get (List.getElem?_eq_getElem hi)
  rw [h1] at e
  cases e
  exact ⟨_, List.getElem?_eq_getElem hi, h2⟩
theorem RepL.set : ∀ {vs : List V} {xs : List α} {i : Nat} {v : V} {x : α}, RepL K S vs xs → Py.rep K S v x → RepL K S (vs.set i v) (xs.set i x)
  | [], [], _, _, _, _, _ => True.intro
  | _ :: _, _ :: _, 0, _, _, h, r => ⟨r, h.2⟩
  | _ :: _, _ :: _, _ + 1, _, _, h, r => ⟨h.1, RepL.set h.2 r⟩
  | [], _ :: _, _, _, _, h, _ => h.elim
  | _ :: _, [], _, _, _, h, _ => h.elim
theorem RepL.drop : ∀ {vs : List V} {xs : List α} (n : Nat), RepL K S vs xs → RepL K S (vs.drop n) (xs.drop n)
  | _, _, 0, h => h
  | [], [], _ + 1, _ => True.intro
  | _ :: _, _ :: _, n + 1, h => RepL.drop n h.2
  | [], _ :: _, _, h => h.elim
  | _ :: _, [], _, h => h.elim
theorem RepL.take : ∀ {vs : List V} {xs : List α} (n : Nat), RepL K S vs xs → RepL K S (vs.take n) (xs.take n)
  | _, _, 0, _ => True.intro
  | [], [], _ + 1, _ => True.intro
  | _ :: _, _ :: _, n + 1, h => ⟨h.1, RepL.take n h.2⟩
  | [], _ :: _, _, h => h.elim
  | _ :: _, [], _, h => h.elim
theorem RepL.erase : ∀ {vs : List V} {xs : List α} (n : Nat), RepL K S vs xs → RepL K S (vs.eraseIdx n) (xs.eraseIdx n)
  | [], [], _, _ => True.intro
  | _ :: _, _ :: _, 0, h => h.2
  | _ :: _, _ :: _, n + 1, h => ⟨h.1, RepL.erase n h.2⟩
  | [], _ :: _, _, h => h.elim
  | _ :: _, [], _, h => h.elim
theorem RepL.rep {vs : List V} {xs : List α} (h : RepL K S vs xs) : ∀ n : Nat, RepL K S (List.replicate n vs).flatten (List.replicate n xs).flatten
  | 0 => True.intro
  | n + 1 => by
    rw [List.replicate_succ, List.replicate_succ, List.flatten_cons, List.flatten_cons]
    exact h.app (RepL.rep h n)
theorem RepL.rev : ∀ {vs : List V} {xs : List α}, RepL K S vs xs → RepL K S vs.reverse xs.reverse
  | [], [], _ => True.intro
  | _ :: _, _ :: _, h => by
    rw [List.reverse_cons, List.reverse_cons]
    exact (RepL.rev h.2).snoc h.1
  | [], _ :: _, h => h.elim
  | _ :: _, [], h => h.elim
end
theorem RepL.ints {K : Fg} {S : Hp} : ∀ {vs : List V} {xs : List Int}, RepL K S vs xs → vs = xs.map V.int
  | [], [], _ => rfl
  | _ :: _, _ :: _, h => by
    rw [List.map_cons, ← RepL.ints h.2, show _ = V.int _ from h.1]
  | [], _ :: _, h => h.elim
  | _ :: _, [], h => h.elim
theorem RepL.bls {K : Fg} {S : Hp} : ∀ {vs : List V} {xs : List Bool}, RepL K S vs xs → vs = xs.map V.bl
  | [], [], _ => rfl
  | _ :: _, _ :: _, h => by
    rw [List.map_cons, ← RepL.bls h.2, show _ = V.bl _ from h.1]
  | [], _ :: _, h => h.elim
  | _ :: _, [], h => h.elim
theorem RepL.of_ints {K : Fg} {S : Hp} : ∀ (xs : List Int), RepL K S (xs.map V.int) xs
  | [] => True.intro
  | _ :: xs => ⟨rfl, RepL.of_ints xs⟩
theorem seqT {K : Fg} {H H' : Hp} {a : Addr} {xs : List V} (e : Same H H') (h : SqT K H a xs) : SqT K H' a xs := by
  rcases h with (h | ⟨o, h⟩) | h
  · exact .inl (.inl (e _ _ h))
  · exact .inl (.inr ⟨o, e _ _ h⟩)
  · exact .inr h
/-- a list -/
instance {α : Type} [Py α] : Py (List α) := ⟨fun K S v xs => ∃ p vs, v = .ref p ∧ S p = some (.lst vs) ∧ RepL K S vs xs, fun e ⟨p, vs, h1, h2, h3⟩ => ⟨p, vs, h1, e _ _ h2, h3.mono e⟩⟩
/-- a tuple of any length -/
structure Tp (α : Type) where
  l : List α
  deriving DecidableEq
instance {α : Type} [Py α] : Py (Tp α) := ⟨fun K S v xs => ∃ p vs, v = .ref p ∧ SqT K S p vs ∧ RepL K S vs xs.l, fun e ⟨p, vs, h1, h2, h3⟩ => ⟨p, vs, h1, seqT e h2, h3.mono e⟩⟩
/-- a pair -/
instance {α β : Type} [Py α] [Py β] : Py (α × β) := ⟨fun K S v x => ∃ p a b, v = .ref p ∧ SqT K S p [a, b] ∧ Py.rep K S a x.1 ∧ Py.rep K S b x.2, fun e ⟨p, a, b, h1, h2, h3, h4⟩ => ⟨p, a, b, h1, seqT e h2, Py.mono e h3, Py.mono e h4⟩⟩
structure T3 (α β γ : Type) where
  a : α
  b : β
  c : γ
  deriving DecidableEq
instance {α β γ : Type} [Py α] [Py β] [Py γ] : Py (T3 α β γ) := ⟨fun K S v x => ∃ p a b c, v = .ref p ∧ SqT K S p [a, b, c] ∧ Py.rep K S a x.a ∧ Py.rep K S b x.b ∧ Py.rep K S c x.c,
  fun e ⟨p, a, b, c, h1, h2, h3, h4, h5⟩ => ⟨p, a, b, c, h1, seqT e h2, Py.mono e h3, Py.mono e h4, Py.mono e h5⟩⟩
/-- None or a thing; one of two kinds of things -/
instance {α : Type} [Py α] : Py (Option α) := ⟨fun K S v x => match x with | none => v = .non | some y => Py.rep K S v y, fun {K H H' v x} e h => by cases x with | none => exact h | some y => exact Py.mono e h⟩
instance {α β : Type} [Py α] [Py β] : Py (Sum α β) := ⟨fun K S v x => match x with | .inl y => Py.rep K S v y | .inr y => Py.rep K S v y, fun {K H H' v x} e h => by cases x with | inl y => exact Py.mono e h | inr y => exact Py.mono e h⟩
/-- the script -/
structure Scr where
  l : List Int
instance : Py Scr := ⟨fun K S v x => ∃ p, v = .ref p ∧ SqL K S p (x.l.map V.int), fun e ⟨p, h1, h2⟩ => ⟨p, h1, e.seq h2⟩⟩
/-- a dict with int keys -/
structure Dct (α : Type) where
  l : List (Int × α)
namespace Dct
variable {α : Type}
def get? (d : Dct α) (k : Int) : Option α := (d.l.find? fun kv => decide (kv.1 = k)).map (·.2)
def put (d : Dct α) (k : Int) (x : α) : Dct α := ⟨if d.l.any (fun kv => decide (kv.1 = k)) then d.l.map (fun kv => if kv.1 = k then (kv.1, x) else kv) else d.l ++ [(k, x)]⟩
def del (d : Dct α) (k : Int) : Dct α := ⟨d.l.filter fun kv => decide (kv.1 ≠ k)⟩
def emp : Dct α := ⟨[]⟩
end Dct
def RepD {α : Type} [Py α] (K : Fg) (S : Hp) : List (Key × V) → List (Int × α) → Prop
  | [], [] => True
  | kv :: kvs, x :: xs => kv.1 = .inl x.1 ∧ Py.rep K S kv.2 x.2 ∧ RepD K S kvs xs
  | _, _ => False
section
variable {α : Type} [Py α] {K : Fg} {S S' : Hp}
theorem RepD.mono (e : Same S S') : ∀ {kvs : List (Key × V)} {xs : List (Int × α)}, RepD K S kvs xs → RepD K S' kvs xs
  | [], [], _ => True.intro
  | _ :: _, _ :: _, h => ⟨h.1, Py.mono e h.2.1, RepD.mono e h.2.2⟩
  | [], _ :: _, h => h.elim
  | _ :: _, [], h => h.elim
theorem RepD.len : ∀ {kvs : List (Key × V)} {xs : List (Int × α)}, RepD K S kvs xs → kvs.length = xs.length
  | [], [], _ => rfl
  | _ :: _, _ :: _, h => by rw [List.length_cons, List.length_cons, RepD.len h.2.2]
  | [], _ :: _, h => h.elim
  | _ :: _, [], h => h.elim
theorem dec_inl (a b : Int) : decide ((Sum.inl a : Key) = Sum.inl b) = decide (a = b) := by
  by_cases e : a = b
  · subst e; simp
  · rw [decide_eq_false e, decide_eq_false (fun q => e (Sum.inl.inj q))]
theorem RepD.val : ∀ {kvs : List (Key × V)} {xs : List (Int × α)} (k : Int), RepD K S kvs xs → match (xs.find? fun kv => decide (kv.1 = k)).map (·.2) with
    | some x => ∃ v, valV kvs (Sum.inl k) = some v ∧ Py.rep K S v x
    | none => valV kvs (Sum.inl k) = none
  | [], [], _, _ => rfl
  | kv :: kvs, x :: xs, k, h => by
    obtain ⟨h1, h2, h3⟩ := h
    by_cases e : x.1 = k
    · have e1 : kv.1 = Sum.inl k := by rw [h1, e]
      rw [List.find?_cons, show decide (x.1 = k) = true from decide_eq_true e]
      exact ⟨kv.2, valV_pos e1, h2⟩
    · have e1 : ¬ kv.1 = Sum.inl k := by rw [h1]; exact fun q => e (Sum.inl.inj q)
      rw [List.find?_cons, show decide (x.1 = k) = false from decide_eq_false e, valV_neg e1]
      exact RepD.val k h3
  | [], _ :: _, _, h => h.elim
  | _ :: _, [], _, h => h.elim
theorem RepD.any : ∀ {kvs : List (Key × V)} {xs : List (Int × α)} (k : Int), RepD K S kvs xs → (kvs.any fun kv => decide (kv.1 = Sum.inl k)) = xs.any fun kv => decide (kv.1 = k)
  | [], [], _, _ => rfl
  | kv :: kvs, x :: xs, k, h => by
    rw [List.any_cons, List.any_cons, RepD.any k h.2.2, h.1, dec_inl]
  | [], _ :: _, _, h => h.elim
  | _ :: _, [], _, h => h.elim
theorem RepD.repl {v : V} {y : α} (k : Int) (r : Py.rep K S v y) : ∀ {kvs : List (Key × V)} {xs : List (Int × α)}, RepD K S kvs xs →
    RepD K S (kvs.map fun kv => if kv.1 = Sum.inl k then (kv.1, v) else kv) (xs.map fun kv => if kv.1 = k then (kv.1, y) else kv)
  | [], [], _ => True.intro
  | kv :: kvs, x :: xs, h => by
    obtain ⟨h1, h2, h3⟩ := h
    rw [List.map_cons, List.map_cons]
    by_cases e : x.1 = k
    · have e1 : kv.1 = Sum.inl k := by rw [h1, e]
      rw [if_pos e1, if_pos e]
      exact ⟨h1, r, RepD.repl k r h3⟩
    · have e1 : ¬ kv.1 = Sum.inl k := by rw [h1]; exact fun q => e (Sum.inl.inj q)
      rw [if_neg e1, if_neg e]
      exact ⟨h1, h2, RepD.repl k r h3⟩
  | [], _ :: _, h => h.elim
  | _ :: _, [], h => h.elim
theorem RepD.snoc {v : V} {y : α} (k : Int) (r : Py.rep K S v y) : ∀ {kvs : List (Key × V)} {xs : List (Int × α)}, RepD K S kvs xs → RepD K S (kvs ++ [(Sum.inl k, v)]) (xs ++ [(k, y)])
  | [], [], _ => ⟨rfl, r, True.intro⟩
  | _ :: _, _ :: _, h => ⟨h.1, h.2.1, RepD.snoc k r h.2.2⟩
  | [], _ :: _, h => h.elim
  | _ :: _, [], h => h.elim
theorem RepD.put {v : V} {y : α} (k : Int) (r : Py.rep K S v y) {kvs : List (Key × V)} {d : Dct α} (h : RepD K S kvs d.l) : RepD K S (putK kvs (Sum.inl k) v) (d.put k y).l := by
  unfold putK Dct.put
  rw [h.any k]
  by_cases e : (d.l.any fun kv => decide (kv.1 = k)) = true
  · rw [if_pos e, if_pos e]
    exact h.repl k r
  · rw [if_neg e, if_neg e]
    exact h.snoc k r
theorem RepD.del (k : Int) : ∀ {kvs : List (Key × V)} {xs : List (Int × α)}, RepD K S kvs xs → RepD K S (dropK kvs (Sum.inl k)) (xs.filter fun kv => decide (kv.1 ≠ k))
  | [], [], _ => True.intro
  | kv :: kvs, x :: xs, h => by
    obtain ⟨h1, h2, h3⟩ := h
    have ih := RepD.del k h3
    by_cases e : x.1 = k
    · have e1 : kv.1 = Sum.inl k := by rw [h1, e]
      rw [dropK_pos e1, List.filter_cons, if_neg (by simp [e])]
      exact ih
    · have e1 : ¬ kv.1 = Sum.inl k := by rw [h1]; exact fun q => e (Sum.inl.inj q)
      rw [dropK_neg e1, List.filter_cons, if_pos (by simp [e])]
      exact ⟨h1, h2, ih⟩
  | [], _ :: _, h => h.elim
  | _ :: _, [], h => h.elim
end
instance {α : Type} [Py α] : Py (Dct α) := ⟨fun K S v d => ∃ p kvs, v = .ref p ∧ S p = some (.dK kvs) ∧ RepD K S kvs d.l, fun e ⟨p, vs, h1, h2, h3⟩ => ⟨p, vs, h1, e _ _ h2, h3.mono e⟩⟩

/-! ### owned things -/
class Own (α : Type) where
  own : Fg → Hp → Hp → V → List Addr → α → Prop
  mono : ∀ {K : Fg} {S S' H H' : Hp} {v : V} {ps : List Addr} {x : α}, Same S S' → (∀ p ∈ ps, H' p = H p) → own K S H v ps x → own K S' H' v ps x
instance {α : Type} [Py α] : Own (List α) := ⟨fun K S H v ps xs => ∃ p vs, v = .ref p ∧ ps = [p] ∧ H p = some (.lst vs) ∧ RepL K S vs xs, fun {K S S' H H' v ps x} e a ⟨p, vs, h1, h2, h3, h4⟩ =>
  ⟨p, vs, h1, h2, by rw [a p (by rw [h2]; exact List.mem_singleton.mpr rfl)]; exact h3, h4.mono e⟩⟩
instance {α : Type} [Py α] : Own (Dct α) := ⟨fun K S H v ps d => ∃ p kvs, v = .ref p ∧ ps = [p] ∧ H p = some (.dK kvs) ∧ RepD K S kvs d.l, fun {K S S' H H' v ps x} e a ⟨p, vs, h1, h2, h3, h4⟩ =>
  ⟨p, vs, h1, h2, by rw [a p (by rw [h2]; exact List.mem_singleton.mpr rfl)]; exact h3, h4.mono e⟩⟩
/-- a spring of the laws: a list of one int, where it stands -/
structure Spr where
  a : Addr
  z : Int
instance : Own Spr := ⟨fun K S H v ps x => v = .ref x.a ∧ ps = [x.a] ∧ H x.a = some (.lst [.int x.z]), fun {K S S' H H' v ps x} e a ⟨h1, h2, h3⟩ =>
  ⟨h1, h2, by rw [a x.a (by rw [h2]; exact List.mem_singleton.mpr rfl)]; exact h3⟩⟩
/-- owned things that tell where they stand -/
class Anch (ω : Type) [Own ω] where
  fp : ω → V × List Addr
  at_ : ∀ {K : Fg} {S H : Hp} {v : V} {ps : List Addr} {x : ω}, Own.own K S H v ps x → (v, ps) = fp x
instance : Anch Spr := ⟨fun x => (.ref x.a, [x.a]), fun ⟨h1, h2, _⟩ => by rw [h1, h2]⟩

/-! ### the state -/
inductive Sl : Type 1
  | no
  | im {α : Type} [Py α] (x : α)
  | ow {α : Type} [Own α] (x : α)
def SlOk (K : Fg) (S H : Hp) (sv : Option (Option V)) (ps : List Addr) : Sl → Prop
  | .no => True
  | @Sl.im _ inst x => ∃ v, sv = some (some v) ∧ inst.rep K S v x
  | @Sl.ow _ inst x => ∃ v, sv = some (some v) ∧ inst.own K S H v ps x
structure Kn (K : Fg) (B S0 S : Hp) (σ : St) (H : Hp) (F : Nat → List Addr) (G : List Sl) : Prop where
  s0 : Same S0 S
  sub : Same S H
  keep : Same B H
  clean : ∀ p o, B p = some o → S p = S0 p
  off : ∀ i p, p ∈ F i → S p = none ∧ B p = none ∧ ∃ o, H p = some o
  dj : ∀ i j p, p ∈ F i → p ∈ F j → i = j
  len : G.length = σ.length
  sl : ∀ i s, G[i]? = some s → SlOk K S H σ[i]? (F i) s
/-- only new objects have come -/
structure Grow (S H S' H' : Hp) : Prop where
  s : Same S S'
  sub : Same S' H'
  h : Same H H'
  cl : ∀ p o, H p = some o → S' p = S p
theorem Grow.refl {S H : Hp} (e : Same S H) : Grow S H S H := ⟨Same.refl _, e, Same.refl _, fun _ _ _ => rfl⟩
theorem Grow.trans {S H S1 H1 S2 H2 : Hp} (a : Grow S H S1 H1) (b : Grow S1 H1 S2 H2) : Grow S H S2 H2 :=
  ⟨a.s.trans b.s, b.sub, a.h.trans b.h, fun p o e => (b.cl p o (a.h p o e)).trans (a.cl p o e)⟩
theorem same_new {H : Hp} {p : Addr} {o : HO} (h : H p = none) : Same H (upd H p o) := fun b x e => by
  rw [upd_ne (ne_of_none e h)]
  exact e
theorem Grow.new {S H : Hp} {p : Addr} {o : HO} (e : Same S H) (h : H p = none) : Grow S H (upd S p o) (upd H p o) := by
  refine ⟨same_new (e.free h), fun b x q => ?_, same_new h, fun b x q => upd_ne (ne_of_none q h)⟩
  by_cases hb : b = p
  · subst hb
    rw [upd_same] at q ⊢
    exact q
  · rw [upd_ne hb] at q ⊢
    exact e b x q
/-- a new object that is not settled -/
theorem Grow.raw {S H : Hp} {p : Addr} {o : HO} (e : Same S H) (h : H p = none) : Grow S H S (upd H p o) := ⟨Same.refl _, e.trans (same_new h), same_new h, fun _ _ _ => rfl⟩
section
variable {K : Fg} {B S0 S S' : Hp} {σ : St} {H H' : Hp} {F : Nat → List Addr} {G : List Sl}
theorem Kn.grow (k : Kn K B S0 S σ H F G) (g : Grow S H S' H') : Kn K B S0 S' σ H' F G := by
  refine ⟨k.s0.trans g.s, g.sub, k.keep.trans g.h, fun p o e => (g.cl p o (k.keep p o e)).trans (k.clean p o e), fun i p hp => ?_, k.dj, k.len, fun i s e => ?_⟩
  · obtain ⟨h1, h2, o, h3⟩ := k.off i p hp
    exact ⟨(g.cl p o h3).trans h1, h2, o, g.h p o h3⟩
  · have q := k.sl i s e
    cases s with
    | no => exact True.intro
    | im x =>
      obtain ⟨v, h1, h2⟩ := q
      exact ⟨v, h1, Py.mono g.s h2⟩
    | ow x =>
      obtain ⟨v, h1, h2⟩ := q
      refine ⟨v, h1, Own.mono g.s (fun p hp => ?_) h2⟩
      obtain ⟨_, _, o, h3⟩ := k.off i p hp
      rw [h3]
      exact g.h p o h3
theorem Kn.new {p : Addr} {o : HO} (k : Kn K B S0 S σ H F G) (h : H p = none) : Kn K B S0 (upd S p o) σ (upd H p o) F G := k.grow (Grow.new k.sub h)
theorem Kn.raw {p : Addr} {o : HO} (k : Kn K B S0 S σ H F G) (h : H p = none) : Kn K B S0 S σ (upd H p o) F G := k.grow (Grow.raw k.sub h)
/-- an object that nobody owns is settled -/
theorem Kn.settle {p : Addr} {o : HO} (k : Kn K B S0 S σ H F G) (h : H p = some o) (hs : S p = none) (hb : B p = none) (hf : ∀ i, p ∉ F i) : Kn K B S0 (upd S p o) σ H F G := by
  have e : Same S (upd S p o) := same_new hs
  refine ⟨k.s0.trans e, fun b x q => ?_, k.keep, fun b x q => ?_, fun i b hb' => ?_, k.dj, k.len, fun i s q => ?_⟩
  · by_cases hbp : b = p
    · subst hbp
      rw [upd_same] at q
      rw [h, q]
    · rw [upd_ne hbp] at q
      exact k.sub b x q
  · rw [upd_ne (ne_of_none q hb)]
    exact k.clean b x q
  · obtain ⟨h1, h2, h3⟩ := k.off i b hb'
    have ne : b ≠ p := fun z => hf i (z ▸ hb')
    exact ⟨by rw [upd_ne ne]; exact h1, h2, h3⟩
  · have z := k.sl i s q
    cases s with
    | no => exact True.intro
    | im x =>
      obtain ⟨v, h1, h2⟩ := z
      exact ⟨v, h1, Py.mono e h2⟩
    | ow x =>
      obtain ⟨v, h1, h2⟩ := z
      exact ⟨v, h1, Own.mono e (fun _ _ => rfl) h2⟩
theorem Kn.free (k : Kn K B S0 S σ H F G) {p : Addr} (h : H p = none) : S p = none ∧ B p = none ∧ ∀ i, p ∉ F i := ⟨k.sub.free h, k.keep.free h, fun i hp => by
  obtain ⟨_, _, o, e⟩ := k.off i p hp
  rw [h] at e
  cases e⟩
theorem set_get.{u} {α : Type u} {l : List α} {i j : Nat} {x y : α} (h : (l.set i x)[j]? = some y) : (j = i ∧ y = x) ∨ (j ≠ i ∧ l[j]? = some y) := by
  by_cases e : j = i
  · subst e
    by_cases hl : j < l.length
    · rw [List.getElem?_set_self hl] at h
      exact .inl ⟨rfl, (Option.some.inj h).symm⟩
    · rw [List.getElem?_eq_none (by rw [List.length_set]; omega)] at h
      cases h
  · rw [List.getElem?_set_ne (fun z => e z.symm)] at h
    exact .inr ⟨e, h⟩
theorem isSome_lt.{u} {α : Type u} {l : List α} {i : Nat} (h : l[i]?.isSome = true) : i < l.length := by
  by_cases e : i < l.length
  · exact e
  · rw [List.getElem?_eq_none (by omega)] at h
    cases h
theorem Kn.set {α : Type} [Py α] {x : α} {v : V} {i : Nat} (k : Kn K B S0 S σ H F G) (r : Py.rep K S v x) (hi : G[i]?.isSome = true) : Kn K B S0 S (σ.set i (some v)) H F (G.set i (.im x)) := by
  have hl := isSome_lt hi
  refine ⟨k.s0, k.sub, k.keep, k.clean, k.off, k.dj, by rw [List.length_set, List.length_set]; exact k.len, fun j s e => ?_⟩
  rcases set_get e with ⟨rfl, rfl⟩ | ⟨ne, e⟩
  · exact ⟨v, List.getElem?_set_self (by rw [← k.len]; exact hl), r⟩
  · rw [List.getElem?_set_ne (fun z => ne z.symm)]
    exact k.sl j s e
theorem Kn.setNo {v : Option V} {i : Nat} (k : Kn K B S0 S σ H F G) : Kn K B S0 S (σ.set i v) H F (G.set i .no) := by
  refine ⟨k.s0, k.sub, k.keep, k.clean, k.off, k.dj, by rw [List.length_set, List.length_set]; exact k.len, fun j s e => ?_⟩
  rcases set_get e with ⟨rfl, rfl⟩ | ⟨ne, e⟩
  · exact True.intro
  · rw [List.getElem?_set_ne (fun z => ne z.symm)]
    exact k.sl j s e
def upF (F : Nat → List Addr) (i : Nat) (ps : List Addr) : Nat → List Addr := fun j => if j = i then ps else F j
theorem upF_self {i : Nat} {ps : List Addr} : upF F i ps i = ps := if_pos rfl
theorem upF_ne {i j : Nat} {ps : List Addr} (h : j ≠ i) : upF F i ps j = F j := if_neg h
theorem Kn.setOwn {α : Type} [Own α] {x : α} {v : V} {i : Nat} {p : Addr} (k : Kn K B S0 S σ H F G) (r : Own.own K S H v [p] x) (hi : G[i]?.isSome = true) (hs : S p = none) (hb : B p = none) (hp : ∃ o, H p = some o) (hf : ∀ j, p ∉ F j) :
    Kn K B S0 S (σ.set i (some v)) H (upF F i [p]) (G.set i (.ow x)) := by
  have hl := isSome_lt hi
  refine ⟨k.s0, k.sub, k.keep, k.clean, fun j q hq => ?_, fun a b q ha hb' => ?_, by rw [List.length_set, List.length_set]; exact k.len, fun j s e => ?_⟩
  · by_cases e : j = i
    · subst e
      rw [upF_self] at hq
      cases List.mem_singleton.mp hq
      exact ⟨hs, hb, hp⟩
    · rw [upF_ne e] at hq
      exact k.off j q hq
  · by_cases ea : a = i
    · by_cases eb : b = i
      · rw [ea, eb]
      · rw [ea, upF_self] at ha
        rw [upF_ne eb] at hb'
        cases List.mem_singleton.mp ha
        exact absurd hb' (hf b)
    · rw [upF_ne ea] at ha
      by_cases eb : b = i
      · rw [eb, upF_self] at hb'
        cases List.mem_singleton.mp hb'
        exact absurd ha (hf a)
      · rw [upF_ne eb] at hb'
        exact k.dj a b q ha hb'
  · rcases set_get e with ⟨rfl, rfl⟩ | ⟨ne, e⟩
    · rw [upF_self]
      exact ⟨v, List.getElem?_set_self (by rw [← k.len]; exact hl), r⟩
    · rw [List.getElem?_set_ne (fun z => ne z.symm), upF_ne ne]
      exact k.sl j s e
/-- the owned thing in slot i changes -/
theorem Kn.mut {α : Type} [Own α] {x : α} {v : V} {i : Nat} (k : Kn K B S0 S σ H F G) (hi : σ[i]? = some (some v)) (h1 : ∀ q, q ∉ F i → H' q = H q) (h2 : ∀ q ∈ F i, ∃ o, H' q = some o) (r : Own.own K S H' v (F i) x) :
    Kn K B S0 S σ H' F (G.set i (.ow x)) := by
  refine ⟨k.s0, fun q o e => ?_, fun q o e => ?_, k.clean, fun j q hq => ?_, k.dj, by rw [List.length_set]; exact k.len, fun j s e => ?_⟩
  · rw [h1 q fun z => by rw [(k.off i q z).1] at e; cases e]
    exact k.sub q o e
  · rw [h1 q fun z => by rw [(k.off i q z).2.1] at e; cases e]
    exact k.keep q o e
  · obtain ⟨a, b, o, c⟩ := k.off j q hq
    refine ⟨a, b, ?_⟩
    by_cases e : q ∈ F i
    · exact h2 q e
    · exact ⟨o, by rw [h1 q e]; exact c⟩
  · rcases set_get e with ⟨rfl, rfl⟩ | ⟨ne, e⟩
    · exact ⟨v, hi, r⟩
    · have z := k.sl j s e
      cases s with
      | no => exact True.intro
      | im y => exact z
      | ow y =>
        obtain ⟨u, a, b⟩ := z
        exact ⟨u, a, Own.mono (Same.refl _) (fun p hp => h1 p fun w => ne (k.dj j i p hp w)) b⟩
/-- knowledge is forgotten -/
inductive Le : List Sl → List Sl → Prop
  | n : Le [] []
  | k {s : Sl} {G G' : List Sl} : Le G G' → Le (s :: G) (s :: G')
  | d {s : Sl} {G G' : List Sl} : Le G G' → Le (.no :: G) (s :: G')
theorem Le.get : ∀ {G G' : List Sl} {i : Nat} {s : Sl}, Le G G' → G[i]? = some s → s = .no ∨ G'[i]? = some s
  | _, _, _, _, .n, e => by simp at e
  | _, _, 0, s, .k _, e => .inr e
  | _, _, 0, s, .d _, e => .inl (Option.some.inj (by simpa using e)).symm
  | _, _, i + 1, s, .k h, e => by simpa using Le.get (i := i) h (by simpa using e)
  | _, _, i + 1, s, .d h, e => by simpa using Le.get (i := i) h (by simpa using e)
theorem Le.length : ∀ {G G' : List Sl}, Le G G' → G.length = G'.length
  | _, _, .n => rfl
  | _, _, .k h => by rw [List.length_cons, List.length_cons, h.length]
  | _, _, .d h => by rw [List.length_cons, List.length_cons, h.length]
theorem Le.refl : ∀ (G : List Sl), Le G G
  | [] => .n
  | _ :: G => .k (Le.refl G)
theorem Kn.le {G' : List Sl} (k : Kn K B S0 S σ H F G) (h : Le G' G) : Kn K B S0 S σ H F G' :=
  ⟨k.s0, k.sub, k.keep, k.clean, k.off, k.dj, h.length.trans k.len, fun i s e => by
    rcases h.get e with rfl | e
    · exact True.intro
    · exact k.sl i s e⟩
theorem Kn.im {α : Type} [Py α] {x : α} {i : Nat} (k : Kn K B S0 S σ H F G) (h : G[i]? = some (.im x)) : ∃ v, σ[i]? = some (some v) ∧ Py.rep K S v x := k.sl i _ h
theorem Kn.ow {α : Type} [Own α] {x : α} {i : Nat} (k : Kn K B S0 S σ H F G) (h : G[i]? = some (.ow x)) : ∃ v, σ[i]? = some (some v) ∧ Own.own K S H v (F i) x := k.sl i _ h
/-- a list that was owned is settled -/
theorem Kn.relL {α : Type} [Py α] {x : List α} {i : Nat} (k : Kn K B S0 S σ H F G) (h : G[i]? = some (.ow x)) : ∃ S', Same S S' ∧ Kn K B S0 S' σ H (upF F i []) (G.set i (.im x)) := by
  obtain ⟨v, hv, p, vs, rfl, hp, h1, h2⟩ := k.ow h
  obtain ⟨hs, hb, _⟩ := k.off i p (by rw [hp]; exact List.mem_singleton.mpr rfl)
  have k1 : Kn K B S0 S σ H (upF F i []) (G.set i .no) := by
    refine ⟨k.s0, k.sub, k.keep, k.clean, fun j q hq => ?_, fun a b q ha hb' => ?_, by rw [List.length_set]; exact k.len, fun j s e => ?_⟩
    · by_cases e : j = i
      · rw [e, upF_self] at hq
        cases hq
      · rw [upF_ne e] at hq
        exact k.off j q hq
    · by_cases ea : a = i
      · rw [ea, upF_self] at ha
        cases ha
      · by_cases eb : b = i
        · rw [eb, upF_self] at hb'
          cases hb'
        · rw [upF_ne ea] at ha
          rw [upF_ne eb] at hb'
          exact k.dj a b q ha hb'
    · rcases set_get e with ⟨rfl, rfl⟩ | ⟨ne, e⟩
      · exact True.intro
      · rw [upF_ne ne]
        exact k.sl j s e
  have hf : ∀ j, p ∉ upF F i [] j := fun j hj => by
    by_cases e : j = i
    · rw [e, upF_self] at hj
      cases hj
    · rw [upF_ne e] at hj
      exact e (k.dj j i p hj (by rw [hp]; exact List.mem_singleton.mpr rfl))
  have k2 := k1.settle h1 hs hb hf
  refine ⟨upd S p (.lst vs), same_new hs, ?_⟩
  have hl : i < G.length := (List.getElem?_eq_some_iff.mp h).1
  have k3 := k2.set (i := i) (v := .ref p) (x := x) ⟨p, vs, rfl, upd_same, h2.mono (same_new hs)⟩ (by rw [List.getElem?_set_self hl]; rfl)
  have e1 : σ.set i (some (.ref p)) = σ := by
    apply List.ext_getElem?
    intro j
    by_cases e : i = j
    · subst e
      rw [List.getElem?_set_self (by rw [← k.len]; exact hl)]
      exact hv.symm
    · rw [List.getElem?_set_ne e]
  rw [e1, List.set_set] at k3
  exact k3
end
end GL

namespace GL
open PySem L2
/-! ### judgements -/
section
variable {α : Type}
/-- an expression: in the state G it gives x and leaves the state G' -/
def EvX [Py α] (K : Fg) (te : TE) (G : List Sl) (x : α) (G' : List Sl) : Prop :=
  ∀ B S0 S σ H F, Kn K B S0 S σ H F G → ∀ Q : VK, (∀ v S' H', Same S S' → Kn K B S0 S' σ H' F G' → Py.rep K S' v x → Q v H') → te σ H Q
/-- .. a new list -/
def EvL [Py α] (K : Fg) (te : TE) (G : List Sl) (xs : List α) (G' : List Sl) : Prop :=
  ∀ B S0 S σ H F, Kn K B S0 S σ H F G → ∀ Q : VK, (∀ p vs S' H', Same S S' → Kn K B S0 S' σ H' F G' → S' p = none → B p = none → (∀ j, p ∉ F j) → H' p = some (.lst vs) → RepL K S' vs xs → Q (.ref p) H') → te σ H Q
/-- .. a list that may be read -/
def Rdl [Py α] (K : Fg) (S : Hp) (σ : St) (G : List Sl) (v : V) (xs : List α) : Prop := Py.rep K S v xs ∨ ∃ i : Nat, σ[i]? = some (some v) ∧ G[i]? = some (Sl.ow xs)
def EvC [Py α] (K : Fg) (te : TE) (G : List Sl) (xs : List α) (G' : List Sl) : Prop :=
  ∀ B S0 S σ H F, Kn K B S0 S σ H F G → ∀ Q : VK, (∀ v S' H', Same S S' → Kn K B S0 S' σ H' F G' → Rdl K S' σ G' v xs → Q v H') → te σ H Q
/-- .. a dict that may be read -/
def Rdd [Py α] (K : Fg) (S : Hp) (σ : St) (G : List Sl) (v : V) (xs : Dct α) : Prop := Py.rep K S v xs ∨ ∃ i : Nat, σ[i]? = some (some v) ∧ G[i]? = some (Sl.ow xs)
def EvD [Py α] (K : Fg) (te : TE) (G : List Sl) (xs : Dct α) (G' : List Sl) : Prop :=
  ∀ B S0 S σ H F, Kn K B S0 S σ H F G → ∀ Q : VK, (∀ v S' H', Same S S' → Kn K B S0 S' σ H' F G' → Rdd K S' σ G' v xs → Q v H') → te σ H Q
/-- items of one kind -/
def EvLs [Py α] (K : Fg) (ta : TA) (G : List Sl) (xs : List α) (G' : List Sl) : Prop :=
  ∀ B S0 S σ H F, Kn K B S0 S σ H F G → ∀ Q : List V → Hp → Prop, (∀ vs S' H', Same S S' → Kn K B S0 S' σ H' F G' → RepL K S' vs xs → Q vs H') → ta σ H Q
/-- packed arguments -/
class PyA (α : Type) where
  rep : Fg → Hp → List V → α → Prop
  mono : ∀ {K : Fg} {H H' : Hp} {vs : List V} {x : α}, Same H H' → rep K H vs x → rep K H' vs x
  n : Nat
  len : ∀ {K : Fg} {H : Hp} {vs : List V} {x : α}, rep K H vs x → vs.length = n
instance : PyA Unit := ⟨fun _ _ vs _ => vs = [], fun _ h => h, 0, fun h => by rw [h]; rfl⟩
instance {β : Type} [Py α] [PyA β] : PyA (α × β) := ⟨fun K S vs x => ∃ v ws, vs = v :: ws ∧ Py.rep K S v x.1 ∧ PyA.rep K S ws x.2, fun e ⟨v, ws, h1, h2, h3⟩ => ⟨v, ws, h1, Py.mono e h2, PyA.mono e h3⟩,
  PyA.n β + 1, fun ⟨v, ws, h1, h2, h3⟩ => by rw [h1, List.length_cons, PyA.len h3]⟩
def EvA [PyA α] (K : Fg) (ta : TA) (G : List Sl) (x : α) (G' : List Sl) : Prop :=
  ∀ B S0 S σ H F, Kn K B S0 S σ H F G → ∀ Q : List V → Hp → Prop, (∀ vs S' H', Same S S' → Kn K B S0 S' σ H' F G' → PyA.rep K S' vs x → Q vs H') → ta σ H Q
end
def EvT (K : Fg) (tt : TT) (G : List Sl) (b : Bool) (G' : List Sl) : Prop :=
  ∀ B S0 S σ H F, Kn K B S0 S σ H F G → ∀ Q : Bool → Hp → Prop, (∀ S' H', Same S S' → Kn K B S0 S' σ H' F G' → Q b H') → tt σ H Q
/-- what is wanted at a place -/
def At (K : Fg) (B S0 : Hp) (P : St → Hp → Prop) (G : List Sl) : Prop := ∀ S σ H F, Kn K B S0 S σ H F G → P σ H
def RT {α : Type} [Py α] (K : Fg) (B S0 : Hp) (rt : VK) (x : α) (G : List Sl) : Prop := ∀ S σ H F v, Kn K B S0 S σ H F G → Py.rep K S v x → rt v H
/-- a later settled heap as the base -/
structure Reb (B S0 S1 : Hp) : Prop where
  s : Same S0 S1
  c : ∀ p o, B p = some o → S1 p = S0 p
theorem Reb.refl {B S0 : Hp} : Reb B S0 S0 := ⟨Same.refl _, fun _ _ _ => rfl⟩
theorem Reb.trans {B S0 S1 S2 : Hp} (a : Reb B S0 S1) (b : Reb B S1 S2) : Reb B S0 S2 := ⟨a.s.trans b.s, fun p o e => (b.c p o e).trans (a.c p o e)⟩
section
variable {K : Fg} {B S0 S1 S S' : Hp} {σ : St} {H H' : Hp} {F : Nat → List Addr} {G G' : List Sl}
theorem Kn.unreb (r : Reb B S0 S1) (k : Kn K B S1 S σ H F G) : Kn K B S0 S σ H F G :=
  ⟨r.s.trans k.s0, k.sub, k.keep, fun p o e => (k.clean p o e).trans (r.c p o e), k.off, k.dj, k.len, k.sl⟩
theorem Kn.reb (k : Kn K B S0 S σ H F G) : Kn K B S S σ H F G := ⟨Same.refl _, k.sub, k.keep, fun _ _ _ => rfl, k.off, k.dj, k.len, k.sl⟩
theorem Kn.rebOf (k : Kn K B S0 S σ H F G) : Reb B S0 S := ⟨k.s0, k.clean⟩
theorem At.reb {P : St → Hp → Prop} (r : Reb B S0 S1) (h : At K B S0 P G) : At K B S1 P G := fun S σ H F k => h S σ H F (k.unreb r)
theorem RT.reb {α : Type} [Py α] {rt : VK} {x : α} (r : Reb B S0 S1) (h : RT K B S0 rt x G) : RT K B S1 rt x G := fun S σ H F v k q => h S σ H F v (k.unreb r) q
/-- the state is one of G' -/
def Mid (K : Fg) (B S0 : Hp) (P : List Sl → Prop) (σ : St) (H : Hp) : Prop := ∃ S F G, Kn K B S0 S σ H F G ∧ P G
theorem at_mid {P : List Sl → Prop} (h : Le G' G) (p : P G') : At K B S0 (Mid K B S0 P) G := fun S σ H F k => ⟨S, F, G', k.le h, p⟩
theorem at_le {P : St → Hp → Prop} (h : Le G' G) (q : At K B S0 P G') : At K B S0 P G := fun S σ H F k => q S σ H F (k.le h)
/-- a list in slot i is owned no more -/
theorem at_relL {α : Type} [Py α] {x : List α} {i : Nat} {P : St → Hp → Prop} (h : G[i]? = some (.ow x)) (q : At K B S0 P (G.set i (.im x))) : At K B S0 P G := fun S σ H F k => by
  obtain ⟨S', _, k'⟩ := k.relL h
  exact q S' σ H _ k'

/-! ### reading lists and dicts -/
section
variable {α : Type} [Py α]
theorem Rdl.at {v : V} {xs : List α} (h : Rdl K S σ G v xs) (k : Kn K B S0 S σ H F G) : ∃ p vs, v = .ref p ∧ H p = some (.lst vs) ∧ RepL K S vs xs := by
  rcases h with ⟨p, vs, h1, h2, h3⟩ | ⟨i, h1, h2⟩
  · exact ⟨p, vs, h1, k.sub _ _ h2, h3⟩
  · obtain ⟨w, e, p, vs, q1, q2, q3, q4⟩ := k.ow h2
    rw [h1] at e
    cases e
    exact ⟨p, vs, q1, q3, q4⟩
theorem Rdl.mono {v : V} {xs : List α} (e : Same S S') (h : Rdl K S σ G v xs) : Rdl K S' σ G v xs := h.elim (fun h => .inl (Py.mono e h)) .inr
theorem Rdd.at {v : V} {xs : Dct α} (h : Rdd K S σ G v xs) (k : Kn K B S0 S σ H F G) : ∃ p kvs, v = .ref p ∧ H p = some (.dK kvs) ∧ RepD K S kvs xs.l := by
  rcases h with ⟨p, vs, h1, h2, h3⟩ | ⟨i, h1, h2⟩
  · exact ⟨p, vs, h1, k.sub _ _ h2, h3⟩
  · obtain ⟨w, e, p, vs, q1, q2, q3, q4⟩ := k.ow h2
    rw [h1] at e
    cases e
    exact ⟨p, vs, q1, q3, q4⟩
theorem Rdd.mono {v : V} {xs : Dct α} (e : Same S S') (h : Rdd K S σ G v xs) : Rdd K S' σ G v xs := h.elim (fun h => .inl (Py.mono e h)) .inr
end

/-! ### expressions -/
section
variable {α β γ : Type} [Py α] [Py β] [Py γ] {G1 G2 G3 : List Sl} {ta tb tc te : TE} {x : α} {y : β} {z : γ} {i j : Nat}
theorem ev_var (h : G[i]? = some (.im x)) : EvX K (tVar i) G x G := fun B S0 S σ H F k Q q => by
  obtain ⟨v, h1, h2⟩ := k.im h
  exact ⟨v, h1, q v S H (Same.refl _) k h2⟩
theorem ev_int {n : Int} : EvX K (tC (.int n)) G n G := fun B S0 S σ H F k Q q => q _ S H (Same.refl _) k rfl
theorem ev_bl {n : Bool} : EvX K (tC (.bl n)) G n G := fun B S0 S σ H F k Q q => q _ S H (Same.refl _) k rfl
theorem ev_str {n : Str} : EvX K (tC (.str n)) G n G := fun B S0 S σ H F k Q q => q _ S H (Same.refl _) k rfl
theorem ev_non : EvX K (tC .non) G () G := fun B S0 S σ H F k Q q => q _ S H (Same.refl _) k rfl
/-- None as one of None and things -/
theorem ev_none : EvX K (tC .non) G (none : Option α) G := fun B S0 S σ H F k Q q => q _ S H (Same.refl _) k rfl
theorem EvX.some (h : EvX K te G x G1) : EvX K te G (some x) G1 := fun B S0 S σ H F k Q q => h B S0 S σ H F k Q fun v S' H' e k' r => q v S' H' e k' r
theorem EvX.inl (h : EvX K te G x G1) : EvX K te G (Sum.inl x : Sum α β) G1 := fun B S0 S σ H F k Q q => h B S0 S σ H F k Q fun v S' H' e k' r => q v S' H' e k' r
theorem EvX.inr (h : EvX K te G y G1) : EvX K te G (Sum.inr y : Sum α β) G1 := fun B S0 S σ H F k Q q => h B S0 S σ H F k Q fun v S' H' e k' r => q v S' H' e k' r
theorem EvX.is {x' : α} (h : EvX K te G x G1) (e : x = x') : EvX K te G x' G1 := e ▸ h
theorem EvX.c {xs : List α} (h : EvX K te G xs G1) : EvC K te G xs G1 := fun B S0 S σ H F k Q q => h B S0 S σ H F k Q fun v S' H' e k' r => q v S' H' e k' (.inl r)
theorem EvX.d {xs : Dct α} (h : EvX K te G xs G1) : EvD K te G xs G1 := fun B S0 S σ H F k Q q => h B S0 S σ H F k Q fun v S' H' e k' r => q v S' H' e k' (.inl r)
theorem ec_own {xs : List α} (h : G[i]? = some (.ow xs)) : EvC K (tVar i) G xs G := fun B S0 S σ H F k Q q => by
  obtain ⟨v, h1, h2⟩ := k.ow h
  exact ⟨v, h1, q v S H (Same.refl _) k (.inr ⟨i, h1, h⟩)⟩
theorem ed_own {xs : Dct α} (h : G[i]? = some (.ow xs)) : EvD K (tVar i) G xs G := fun B S0 S σ H F k Q q => by
  obtain ⟨v, h1, h2⟩ := k.ow h
  exact ⟨v, h1, q v S H (Same.refl _) k (.inr ⟨i, h1, h⟩)⟩
theorem EvL.ev {xs : List α} (h : EvL K te G xs G1) : EvX K te G xs G1 := fun B S0 S σ H F k Q q => h B S0 S σ H F k Q fun p vs S' H' e k' hs hb hf hp r =>
  q _ (upd S' p (.lst vs)) H' (e.trans (same_new hs)) (k'.settle hp hs hb hf) ⟨p, vs, rfl, upd_same, r.mono (same_new hs)⟩
theorem EvL.c {xs : List α} (h : EvL K te G xs G1) : EvC K te G xs G1 := h.ev.c
theorem ev_i0 {f : Int → Int → Int} {a b : Int} (ha : EvX K ta G a G1) (hb : EvX K tb G1 b G2) : EvX K (tOp (rI0 fun i j => .int (f i j)) ta tb) G (f a b) G2 := fun B S0 S σ H F k Q q =>
  ha B S0 S σ H F k _ fun v S1 H1 e1 k1 r1 => hb B S0 S1 σ H1 F k1 _ fun u S2 H2 e2 k2 r2 => ⟨a, b, r1, r2, q _ S2 H2 (e1.trans e2) k2 rfl⟩
theorem ev_iC {C : Int → Int → Prop} {f : Int → Int → Int} {a b : Int} (ha : EvX K ta G a G1) (hb : EvX K tb G1 b G2) (hc : C a b) : EvX K (tOp (rI C fun i j => .int (f i j)) ta tb) G (f a b) G2 := fun B S0 S σ H F k Q q =>
  ha B S0 S σ H F k _ fun v S1 H1 e1 k1 r1 => hb B S0 S1 σ H1 F k1 _ fun u S2 H2 e2 k2 r2 => ⟨a, b, r1, r2, hc, q _ S2 H2 (e1.trans e2) k2 rfl⟩
theorem ev_b0 {f : Int → Int → Bool} {a b : Int} (ha : EvX K ta G a G1) (hb : EvX K tb G1 b G2) : EvX K (tOp (rI0 fun i j => .bl (f i j)) ta tb) G (f a b) G2 := fun B S0 S σ H F k Q q =>
  ha B S0 S σ H F k _ fun v S1 H1 e1 k1 r1 => hb B S0 S1 σ H1 F k1 _ fun u S2 H2 e2 k2 r2 => ⟨a, b, r1, r2, q _ S2 H2 (e1.trans e2) k2 rfl⟩
theorem ev_neg {a : Int} (ha : EvX K ta G a G1) : EvX K (tUn (rU fun i => .int (-i)) ta) G (-a) G1 := fun B S0 S σ H F k Q q =>
  ha B S0 S σ H F k _ fun v S1 H1 e1 k1 r1 => ⟨a, r1, q _ S1 H1 e1 k1 rfl⟩
/-- == and != of plain values -/
class Sc (α : Type) [Py α] where
  val : α → V
  of : ∀ {K : Fg} {S : Hp} {v : V} {x : α}, Py.rep K S v x → v = val x
  inj : ∀ {x y : α}, val x = val y → x = y
  sc : ∀ x y : α, scal (val x) (val y) = true
instance : Sc Int := ⟨V.int, fun h => h, fun h => V.int.inj h, fun _ _ => rfl⟩
instance : Sc Bool := ⟨V.bl, fun h => h, fun h => V.bl.inj h, fun _ _ => rfl⟩
instance : Sc Str := ⟨V.str, fun h => h, fun h => V.str.inj h, fun _ _ => rfl⟩
theorem Sc.dec {δ : Type} [Py δ] [Sc δ] [DecidableEq δ] (x y : δ) : decide (Sc.val x = Sc.val y) = decide (x = y) := by
  by_cases e : x = y
  · rw [e, decide_eq_true rfl, decide_eq_true rfl]
  · rw [decide_eq_false e, decide_eq_false fun q => e (Sc.inj q)]
theorem ev_eq {δ : Type} [Py δ] [Sc δ] [DecidableEq δ] {a b : δ} (ha : EvX K ta G a G1) (hb : EvX K tb G1 b G2) : EvX K (tOp rEq ta tb) G (decide (a = b)) G2 := fun B S0 S σ H F k Q q =>
  ha B S0 S σ H F k _ fun v S1 H1 e1 k1 r1 => hb B S0 S1 σ H1 F k1 _ fun u S2 H2 e2 k2 r2 => by
    rw [Sc.of r1, Sc.of r2]
    exact ⟨Sc.sc a b, q _ S2 H2 (e1.trans e2) k2 (by rw [Sc.dec]; rfl)⟩
theorem ev_ne {δ : Type} [Py δ] [Sc δ] [DecidableEq δ] {a b : δ} (ha : EvX K ta G a G1) (hb : EvX K tb G1 b G2) : EvX K (tOp rNe ta tb) G (!decide (a = b)) G2 := fun B S0 S σ H F k Q q =>
  ha B S0 S σ H F k _ fun v S1 H1 e1 k1 r1 => hb B S0 S1 σ H1 F k1 _ fun u S2 H2 e2 k2 r2 => by
    rw [Sc.of r1, Sc.of r2]
    exact ⟨Sc.sc a b, q _ S2 H2 (e1.trans e2) k2 (by rw [Sc.dec]; rfl)⟩
/-! tests -/
section
variable {t u : TT} {b c : Bool}
theorem et_test (h : EvX K te G b G1) : EvT K (tTest te) G b G1 := fun B S0 S σ H F k Q q => h B S0 S σ H F k _ fun v S1 H1 e1 k1 r1 => ⟨b, r1, q S1 H1 e1 k1⟩
theorem et_B (h : EvX K te G b G1) : EvT K (tB te) G b G1 := fun B S0 S σ H F k Q q => h B S0 S σ H F k _ fun v S1 H1 e1 k1 r1 => ⟨b, r1, q S1 H1 e1 k1⟩
theorem et_and (h1 : EvT K t G b G) (h2 : b = true → EvT K u G c G) : EvT K (tAnd t u) G (b && c) G := fun B S0 S σ H F k Q q => h1 B S0 S σ H F k _ fun S1 H1 e1 k1 => by
  cases b with
  | true =>
    show u σ H1 Q
    exact h2 rfl B S0 S1 σ H1 F k1 Q fun S2 H2 e2 k2 => q S2 H2 (e1.trans e2) k2
  | false =>
    show Q false H1
    exact q S1 H1 e1 k1
theorem et_or (h1 : EvT K t G b G) (h2 : b = false → EvT K u G c G) : EvT K (tOr t u) G (b || c) G := fun B S0 S σ H F k Q q => h1 B S0 S σ H F k _ fun S1 H1 e1 k1 => by
  cases b with
  | true =>
    show Q true H1
    exact q S1 H1 e1 k1
  | false =>
    show u σ H1 Q
    exact h2 rfl B S0 S1 σ H1 F k1 Q fun S2 H2 e2 k2 => q S2 H2 (e1.trans e2) k2
theorem et_not (h1 : EvT K t G b G1) : EvT K (tNot t) G (!b) G1 := fun B S0 S σ H F k Q q => h1 B S0 S σ H F k _ fun S1 H1 e1 k1 => q S1 H1 e1 k1
theorem et_yes : EvT K tYes G true G := fun B S0 S σ H F k Q q => q S H (Same.refl _) k
theorem ev_andV (h1 : EvX K ta G b G) (h2 : b = true → EvX K tb G c G) : EvX K (tAndV ta tb) G (b && c) G := fun B S0 S σ H F k Q q => h1 B S0 S σ H F k _ fun v S1 H1 e1 k1 r1 => ⟨b, r1, by
  cases b with
  | true =>
    show tb σ H1 Q
    exact h2 rfl B S0 S1 σ H1 F k1 Q fun w S2 H2 e2 k2 r2 => q w S2 H2 (e1.trans e2) k2 r2
  | false =>
    show Q (.bl false) H1
    exact q _ S1 H1 e1 k1 rfl⟩
theorem ev_orV (h1 : EvX K ta G b G) (h2 : b = false → EvX K tb G c G) : EvX K (tOrV ta tb) G (b || c) G := fun B S0 S σ H F k Q q => h1 B S0 S σ H F k _ fun v S1 H1 e1 k1 r1 => ⟨b, r1, by
  cases b with
  | true =>
    show Q (.bl true) H1
    exact q _ S1 H1 e1 k1 rfl
  | false =>
    show tb σ H1 Q
    exact h2 rfl B S0 S1 σ H1 F k1 Q fun w S2 H2 e2 k2 r2 => q w S2 H2 (e1.trans e2) k2 r2⟩
theorem ev_notV (h1 : EvX K ta G b G1) : EvX K (tNotV ta) G (!b) G1 := fun B S0 S σ H F k Q q => h1 B S0 S σ H F k _ fun v S1 H1 e1 k1 r1 => ⟨b, r1, q _ S1 H1 e1 k1 rfl⟩
theorem ev_if {x' : α} (h : EvT K t G b G1) (h1 : b = true → EvX K ta G1 x G2) (h2 : b = false → EvX K tb G1 x' G2) : EvX K (tIf t ta tb) G (if b = true then x else x') G2 := fun B S0 S σ H F k Q q => h B S0 S σ H F k _ fun S1 H1 e1 k1 => by
  cases b with
  | true =>
    show ta σ H1 Q
    exact h1 rfl B S0 S1 σ H1 F k1 Q fun w S2 H2 e2 k2 r2 => q w S2 H2 (e1.trans e2) k2 r2
  | false =>
    show tb σ H1 Q
    exact h2 rfl B S0 S1 σ H1 F k1 Q fun w S2 H2 e2 k2 r2 => q w S2 H2 (e1.trans e2) k2 r2
end
/-! displays -/
theorem els_nil : EvLs K tNil G ([] : List α) G := fun B S0 S σ H F k Q q => q [] S H (Same.refl _) k True.intro
theorem els_cons {tr : TA} {xs : List α} (h : EvX K ta G x G1) (hr : EvLs K tr G1 xs G2) : EvLs K (tCons ta tr) G (x :: xs) G2 := fun B S0 S σ H F k Q q =>
  h B S0 S σ H F k _ fun v S1 H1 e1 k1 r1 => hr B S0 S1 σ H1 F k1 _ fun vs S2 H2 e2 k2 r2 => q (v :: vs) S2 H2 (e1.trans e2) k2 ⟨Py.mono e2 r1, r2⟩
theorem ea_nil : EvA K tNil G () G := fun B S0 S σ H F k Q q => q [] S H (Same.refl _) k rfl
theorem ea_cons {δ : Type} [PyA δ] {tr : TA} {xs : δ} (h : EvX K ta G x G1) (hr : EvA K tr G1 xs G2) : EvA K (tCons ta tr) G (x, xs) G2 := fun B S0 S σ H F k Q q =>
  h B S0 S σ H F k _ fun v S1 H1 e1 k1 r1 => hr B S0 S1 σ H1 F k1 _ fun vs S2 H2 e2 k2 r2 => q (v :: vs) S2 H2 (e1.trans e2) k2 ⟨v, vs, rfl, Py.mono e2 r1, r2⟩
theorem el_lst {t : TA} {xs : List α} (h : EvLs K t G xs G1) (hl : xs.length ≤ 1000) : EvL K (tLst t) G xs G1 := fun B S0 S σ H F k Q q =>
  h B S0 S σ H F k _ fun vs S1 H1 e1 k1 r1 => ⟨by rw [r1.len]; exact Nat.le_trans hl (by decide), fun p hp => by
    obtain ⟨a, b, c⟩ := k1.free hp
    exact q p vs S1 _ e1 (k1.raw hp) a b c upd_same r1⟩
theorem ev_tp {t : TA} {xs : List α} (h : EvLs K t G xs G1) (hl : xs.length ≤ 1000) : EvX K (tTup t) G (Tp.mk xs) G1 := fun B S0 S σ H F k Q q =>
  h B S0 S σ H F k _ fun vs S1 H1 e1 k1 r1 => ⟨by rw [r1.len]; exact Nat.le_trans hl (by decide), fun p hp =>
    q (.ref p) _ _ (e1.trans (same_new (k1.free hp).1)) (k1.new hp) ⟨p, vs, rfl, SqT.of upd_same, r1.mono (same_new (k1.free hp).1)⟩⟩
theorem ev_pair (ha : EvX K ta G x G1) (hb : EvX K tb G1 y G2) : EvX K (tTup (tCons ta (tCons tb tNil))) G (x, y) G2 := fun B S0 S σ H F k Q q =>
  ha B S0 S σ H F k _ fun v S1 H1 e1 k1 r1 => hb B S0 S1 σ H1 F k1 _ fun u S2 H2 e2 k2 r2 => ⟨by show 2 ≤ sizeLine; decide, fun p hp => by
    have e3 := same_new (o := .tup [v, u]) (k2.free hp).1
    exact q (.ref p) _ _ ((e1.trans e2).trans e3) (k2.new hp) ⟨p, v, u, rfl, SqT.of upd_same, Py.mono (e2.trans e3) r1, Py.mono e3 r2⟩⟩
theorem ev_t3 (ha : EvX K ta G x G1) (hb : EvX K tb G1 y G2) (hc : EvX K tc G2 z G3) : EvX K (tTup (tCons ta (tCons tb (tCons tc tNil)))) G (T3.mk x y z) G3 := fun B S0 S σ H F k Q q =>
  ha B S0 S σ H F k _ fun v S1 H1 e1 k1 r1 => hb B S0 S1 σ H1 F k1 _ fun u S2 H2 e2 k2 r2 => hc B S0 S2 σ H2 F k2 _ fun w S3 H3 e3 k3 r3 => ⟨by show 3 ≤ sizeLine; decide, fun p hp => by
    have e4 := same_new (o := .tup [v, u, w]) (k3.free hp).1
    exact q (.ref p) _ _ (((e1.trans e2).trans e3).trans e4) (k3.new hp) ⟨p, v, u, w, rfl, SqT.of upd_same, Py.mono ((e2.trans e3).trans e4) r1, Py.mono (e3.trans e4) r2, Py.mono e4 r3⟩⟩
/-! items -/
def ix {δ : Type} [Inhabited δ] (xs : List δ) (i : Int) : δ := xs.getD i.toNat default
theorem ix_at {δ : Type} [Inhabited δ] {xs : List δ} {i : Int} (h0 : 0 ≤ i) (h1 : i < xs.length) : xs[i.toNat]? = some (ix xs i) := by
  unfold ix
  rw [List.getD_eq_getElem?_getD]
  rw [List.getElem?_eq_getElem (by omega)]
  rfl
theorem atI_of {vs : List V} {i : Int} {v : V} (h0 : 0 ≤ i) (h : vs[i.toNat]? = some v) : atI vs i = some v := by
  have e : i = ((i.toNat : Nat) : Int) := by omega
  rw [e]
  exact atI_nat h
/-- a settled list, the place by anything -/
theorem ev_ix [Inhabited α] {xs : List α} {n : Int} (ha : EvX K ta G xs G1) (hb : EvX K tb G1 n G2) (h : 0 ≤ n ∧ n < xs.length) : EvX K (tOp (rIxL K) ta tb) G (ix xs n) G2 := fun B S0 S σ H F k Q q =>
  ha B S0 S σ H F k _ fun v S1 H1 e1 k1 r1 => hb B S0 S1 σ H1 F k1 _ fun u S2 H2 e2 k2 r2 => by
    obtain ⟨p, vs, rfl, hp, hr⟩ := Py.mono e2 r1
    obtain ⟨w, h1, h2⟩ := hr.get (ix_at h.1 h.2)
    exact ⟨p, vs, n, w, rfl, r2, SqL.of (k2.sub _ _ hp), atI_of h.1 h1, q w S2 H2 (e1.trans e2) k2 h2⟩
theorem ev_ixC [Inhabited α] {xs : List α} {n : Int} (ha : EvC K ta G xs G1) (hb : EvX K tb G1 n G1) (h : 0 ≤ n ∧ n < xs.length) : EvX K (tOp (rIxL K) ta tb) G (ix xs n) G1 := fun B S0 S σ H F k Q q =>
  ha B S0 S σ H F k _ fun v S1 H1 e1 k1 r1 => hb B S0 S1 σ H1 F k1 _ fun u S2 H2 e2 k2 r2 => by
    obtain ⟨p, vs, rfl, hp, hr⟩ := (r1.mono e2).at k2
    obtain ⟨w, h1, h2⟩ := hr.get (ix_at h.1 h.2)
    exact ⟨p, vs, n, w, rfl, r2, SqL.of hp, atI_of h.1 h1, q w S2 H2 (e1.trans e2) k2 h2⟩
theorem ev_ixT [Inhabited α] {xs : Tp α} {n : Int} (ha : EvX K ta G xs G1) (hb : EvX K tb G1 n G2) (h : 0 ≤ n ∧ n < xs.l.length) : EvX K (tOp (rIxT K) ta tb) G (ix xs.l n) G2 := fun B S0 S σ H F k Q q =>
  ha B S0 S σ H F k _ fun v S1 H1 e1 k1 r1 => hb B S0 S1 σ H1 F k1 _ fun u S2 H2 e2 k2 r2 => by
    obtain ⟨p, vs, rfl, hp, hr⟩ := Py.mono e2 r1
    obtain ⟨w, h1, h2⟩ := hr.get (ix_at h.1 h.2)
    exact ⟨p, vs, n, w, rfl, r2, seqT k2.sub hp, atI_of h.1 h1, q w S2 H2 (e1.trans e2) k2 h2⟩
theorem ev_fst {xy : α × β} (ha : EvX K ta G xy G1) : EvX K (tOp (rIxT K) ta (tC (.int 0))) G xy.1 G1 := fun B S0 S σ H F k Q q =>
  ha B S0 S σ H F k _ fun v S1 H1 e1 k1 r1 => by
    obtain ⟨p, a, b, rfl, hp, h1, h2⟩ := r1
    exact ⟨p, _, 0, a, rfl, rfl, seqT k1.sub hp, atI_nat (j := 0) rfl, q a S1 H1 e1 k1 h1⟩
theorem ev_snd {xy : α × β} (ha : EvX K ta G xy G1) : EvX K (tOp (rIxT K) ta (tC (.int 1))) G xy.2 G1 := fun B S0 S σ H F k Q q =>
  ha B S0 S σ H F k _ fun v S1 H1 e1 k1 r1 => by
    obtain ⟨p, a, b, rfl, hp, h1, h2⟩ := r1
    exact ⟨p, _, 1, b, rfl, rfl, seqT k1.sub hp, atI_nat (j := 1) rfl, q b S1 H1 e1 k1 h2⟩
theorem ev_3a {w : T3 α β γ} (ha : EvX K ta G w G1) : EvX K (tOp (rIxT K) ta (tC (.int 0))) G w.a G1 := fun B S0 S σ H F k Q q =>
  ha B S0 S σ H F k _ fun v S1 H1 e1 k1 r1 => by
    obtain ⟨p, a, b, c, rfl, hp, h1, h2, h3⟩ := r1
    exact ⟨p, _, 0, a, rfl, rfl, seqT k1.sub hp, atI_nat (j := 0) rfl, q a S1 H1 e1 k1 h1⟩
theorem ev_3b {w : T3 α β γ} (ha : EvX K ta G w G1) : EvX K (tOp (rIxT K) ta (tC (.int 1))) G w.b G1 := fun B S0 S σ H F k Q q =>
  ha B S0 S σ H F k _ fun v S1 H1 e1 k1 r1 => by
    obtain ⟨p, a, b, c, rfl, hp, h1, h2, h3⟩ := r1
    exact ⟨p, _, 1, b, rfl, rfl, seqT k1.sub hp, atI_nat (j := 1) rfl, q b S1 H1 e1 k1 h2⟩
theorem ev_3c {w : T3 α β γ} (ha : EvX K ta G w G1) : EvX K (tOp (rIxT K) ta (tC (.int 2))) G w.c G1 := fun B S0 S σ H F k Q q =>
  ha B S0 S σ H F k _ fun v S1 H1 e1 k1 r1 => by
    obtain ⟨p, a, b, c, rfl, hp, h1, h2, h3⟩ := r1
    exact ⟨p, _, 2, c, rfl, rfl, seqT k1.sub hp, atI_nat (j := 2) rfl, q c S1 H1 e1 k1 h3⟩
/-! len, min, max -/
def rLenS (K : Fg) : List V → Hp → VK → Prop := fun xs H Q => ∃ p ys, xs = [.ref p] ∧ (SqL K H p ys ∨ SqT K H p ys) ∧ Q (.int ys.length) H
theorem call_lenG {X : Cx} : CallR X (.builtin "len") (rLenS X.K) := call_len_seq
theorem ev_len {xs : List α} (ha : EvC K ta G xs G1) : EvX K (tCB (rLenS K) (tCons ta tNil)) G (xs.length : Int) G1 := fun B S0 S σ H F k Q q =>
  ha B S0 S σ H F k _ fun v S1 H1 e1 k1 r1 => by
    obtain ⟨p, vs, rfl, hp, hr⟩ := r1.at k1
    exact ⟨p, vs, rfl, .inl (SqL.of hp), q _ S1 H1 e1 k1 (by rw [hr.len]; rfl)⟩
theorem ev_lenT {xs : Tp α} (ha : EvX K ta G xs G1) : EvX K (tCB (rLenS K) (tCons ta tNil)) G (xs.l.length : Int) G1 := fun B S0 S σ H F k Q q =>
  ha B S0 S σ H F k _ fun v S1 H1 e1 k1 r1 => by
    obtain ⟨p, vs, rfl, hp, hr⟩ := r1
    exact ⟨p, vs, rfl, .inr (seqT k1.sub hp), q _ S1 H1 e1 k1 (by rw [hr.len]; rfl)⟩
theorem ev_lenS {xs : Scr} (ha : EvX K ta G xs G1) : EvX K (tCB (rLenS K) (tCons ta tNil)) G (xs.l.length : Int) G1 := fun B S0 S σ H F k Q q =>
  ha B S0 S σ H F k _ fun v S1 H1 e1 k1 r1 => by
    obtain ⟨p, rfl, hp⟩ := r1
    exact ⟨p, _, rfl, .inl (k1.sub.seq hp), q _ S1 H1 e1 k1 (by rw [List.length_map]; rfl)⟩
def rMin2 : List V → Hp → VK → Prop := fun xs H Q => ∃ i j, xs = [.int i, .int j] ∧ Q (.int (if j < i then j else i)) H
def rMax2 : List V → Hp → VK → Prop := fun xs H Q => ∃ i j, xs = [.int i, .int j] ∧ Q (.int (if j > i then j else i)) H
theorem call_minG {X : Cx} (hc : X.calm = true) : CallR X (.builtin "min") rMin2 := call_min2 hc
theorem call_maxG {X : Cx} (hc : X.calm = true) : CallR X (.builtin "max") rMax2 := call_max2 hc
theorem ev_min {a b : Int} (ha : EvX K ta G a G1) (hb : EvX K tb G1 b G2) : EvX K (tCB rMin2 (tCons ta (tCons tb tNil))) G (min a b) G2 := fun B S0 S σ H F k Q q =>
  ha B S0 S σ H F k _ fun v S1 H1 e1 k1 r1 => hb B S0 S1 σ H1 F k1 _ fun u S2 H2 e2 k2 r2 => ⟨a, b, by rw [show v = .int a from r1, show u = .int b from r2], q _ S2 H2 (e1.trans e2) k2 (by
    show V.int _ = V.int _
    congr 1
    rw [Int.min_def]
    split <;> split <;> omega)⟩
theorem ev_max {a b : Int} (ha : EvX K ta G a G1) (hb : EvX K tb G1 b G2) : EvX K (tCB rMax2 (tCons ta (tCons tb tNil))) G (max a b) G2 := fun B S0 S σ H F k Q q =>
  ha B S0 S σ H F k _ fun v S1 H1 e1 k1 r1 => hb B S0 S1 σ H1 F k1 _ fun u S2 H2 e2 k2 r2 => ⟨a, b, by rw [show v = .int a from r1, show u = .int b from r2], q _ S2 H2 (e1.trans e2) k2 (by
    show V.int _ = V.int _
    congr 1
    rw [Int.max_def]
    split <;> split <;> omega)⟩
def rInt1 : List V → Hp → VK → Prop := fun xs H Q => (∃ i, xs = [.int i] ∧ Q (.int i) H) ∨ ∃ k, xs = [.bl k] ∧ Q (.int (if k then 1 else 0)) H
theorem call_intG {X : Cx} : CallR X (.type "int") rInt1 := call_int1
theorem ev_intB {b : Bool} (ha : EvX K ta G b G1) : EvX K (tCB rInt1 (tCons ta tNil)) G (if b then (1 : Int) else 0) G1 := fun B S0 S σ H F k Q q =>
  ha B S0 S σ H F k _ fun v S1 H1 e1 k1 r1 => .inr ⟨b, by rw [show v = .bl b from r1], q _ S1 H1 e1 k1 rfl⟩
/-! dicts -/
theorem el_dnew : ∀ {B S0 S : Hp} {σ : St} {H : Hp} {F : Nat → List Addr} {Q : VK}, Kn K B S0 S σ H F G → (∀ p H', Kn K B S0 S σ H' F G → S p = none → B p = none → (∀ j, p ∉ F j) → H' p = some (.dK []) → Q (.ref p) H') → tDNewK σ H Q := fun k q p hp => by
  obtain ⟨a, b, c⟩ := k.free hp
  exact q p _ (k.raw hp) a b c upd_same
theorem RepD.get {δ : Type} [Py δ] {K : Fg} {S : Hp} {kvs : List (Key × V)} {d : Dct δ} {k : Int} (h : RepD K S kvs d.l) : (∀ x, d.get? k = some x → ∃ v, valV kvs (Sum.inl k) = some v ∧ Py.rep K S v x) ∧ (d.get? k = none → valV kvs (Sum.inl k) = none) := by
  have q := h.val k
  unfold Dct.get?
  constructor
  · intro x e
    rw [e] at q
    exact q
  · intro e
    rw [e] at q
    exact q
theorem RepD.isSome {δ : Type} [Py δ] {K : Fg} {S : Hp} {kvs : List (Key × V)} {d : Dct δ} (k : Int) (h : RepD K S kvs d.l) : (valV kvs (Sum.inl k)).isSome = (d.get? k).isSome := by
  obtain ⟨h1, h2⟩ := h.get (k := k)
  cases e : d.get? k with
  | none => rw [h2 e]; rfl
  | some x =>
    obtain ⟨v, h3, _⟩ := h1 x e
    rw [h3]
    rfl
theorem dgetI {H : Hp} {a : Addr} {kvs : List (Key × V)} {k : Int} (e : H a = some (.dK kvs)) : DGet H a (.int k) (valV kvs (Sum.inl k)) := DGet.k (k := Sum.inl k) e
theorem ev_din {d : Dct α} {n : Int} (hk : EvX K ta G n G1) (hd : EvD K tb G1 d G2) : EvX K (tDIn ta tb) G (d.get? n).isSome G2 := fun B S0 S σ H F k Q q =>
  hk B S0 S σ H F k _ fun v S1 H1 e1 k1 r1 => hd B S0 S1 σ H1 F k1 _ fun u S2 H2 e2 k2 r2 => by
    obtain ⟨p, kvs, rfl, hp, hr⟩ := r2.at k2
    rw [show v = .int n from r1]
    exact ⟨p, _, rfl, dgetI hp, q _ S2 H2 (e1.trans e2) k2 (by rw [hr.isSome]; rfl)⟩
theorem ev_dnotin {d : Dct α} {n : Int} (hk : EvX K ta G n G1) (hd : EvD K tb G1 d G2) : EvX K (tDNotIn ta tb) G (!(d.get? n).isSome) G2 := fun B S0 S σ H F k Q q =>
  hk B S0 S σ H F k _ fun v S1 H1 e1 k1 r1 => hd B S0 S1 σ H1 F k1 _ fun u S2 H2 e2 k2 r2 => by
    obtain ⟨p, kvs, rfl, hp, hr⟩ := r2.at k2
    rw [show v = .int n from r1]
    exact ⟨p, _, rfl, dgetI hp, q _ S2 H2 (e1.trans e2) k2 (by rw [hr.isSome]; rfl)⟩
def dix {δ : Type} [Inhabited δ] (d : Dct δ) (k : Int) : δ := (d.get? k).getD default
theorem ev_dget [Inhabited α] {d : Dct α} {n : Int} (hd : EvD K ta G d G1) (hk : EvX K tb G1 n G1) (h : (d.get? n).isSome = true) : EvX K (tDGet ta tb) G (dix d n) G1 := fun B S0 S σ H F k Q q =>
  hd B S0 S σ H F k _ fun v S1 H1 e1 k1 r1 => hk B S0 S1 σ H1 F k1 _ fun u S2 H2 e2 k2 r2 => by
    obtain ⟨p, kvs, rfl, hp, hr⟩ := (r1.mono e2).at k2
    rw [show u = .int n from r2]
    cases e : d.get? n with
    | none => rw [e] at h; cases h
    | some x' =>
      obtain ⟨w, h1, h2⟩ := (hr.get (k := n)).1 x' e
      have g := dgetI (k := n) hp
      rw [h1] at g
      refine ⟨p, w, rfl, g, q w S2 H2 (e1.trans e2) k2 ?_⟩
      unfold dix
      rw [e]
      exact h2
theorem ev_dget2 {d : Dct α} {n : Int} (hd : EvD K ta G d G1) (hk : EvX K tb G1 n G1) (hx : EvX K tc G1 x G1) : EvX K (tDGet2 ta tb tc) G ((d.get? n).getD x) G1 := fun B S0 S σ H F k Q q =>
  hd B S0 S σ H F k _ fun v S1 H1 e1 k1 r1 => by
    obtain ⟨p, kvs, rfl, hp, hr⟩ := r1.at k1
    refine ⟨p, rfl, .inl ⟨kvs, .inl hp⟩, hk B S0 S1 σ H1 F k1 _ fun u S2 H2 e2 k2 r2 => hx B S0 S2 σ H2 F k2 _ fun w S3 H3 e3 k3 r3 => ?_⟩
    obtain ⟨p', kvs', ep, hp', hr'⟩ := (r1.mono (e2.trans e3)).at k3
    cases ep
    rw [show u = .int n from r2]
    refine ⟨_, dgetI hp', q _ S3 H3 ((e1.trans e2).trans e3) k3 ?_⟩
    obtain ⟨h1, h2⟩ := hr'.get (k := n)
    cases e : d.get? n with
    | none => rw [h2 e]; exact r3
    | some x' =>
      obtain ⟨w', h3, h4⟩ := h1 x' e
      rw [h3]
      exact h4
end

/-! ### calls -/
/-- the promise of a def: from packed arguments its value; nothing else changes -/
def spF {α β : Type} [PyA α] [Py β] (K : Fg) (f : α → β) (pre : α → Prop) : Sp := fun vs H Q _ => ∃ (S : Hp) (a : α), Same S H ∧ PyA.rep K S vs a ∧ pre a ∧ ∀ v S' H', Grow S H S' H' → Py.rep K S' v (f a) → Q v H'
/-- .. a new list -/
def spL {α β : Type} [PyA α] [Py β] (K : Fg) (f : α → List β) (pre : α → Prop) : Sp := fun vs H Q _ => ∃ (S : Hp) (a : α), Same S H ∧ PyA.rep K S vs a ∧ pre a ∧
  ∀ p us S' H', Grow S H S' H' → H p = none → S' p = none → H' p = some (.lst us) → RepL K S' us (f a) → Q (.ref p) H'
section
variable {α β : Type} [PyA α] [Py β] {G1 : List Sl} {f : α → β} {pre : α → Prop} {a : α} {t : TA} {E : XK}
theorem ev_call (ha : EvA K t G a G1) (hp : pre a) : EvX K (tCall (spF K f pre) [] E t) G (f a) G1 := fun B S0 S σ H F k Q q =>
  ha B S0 S σ H F k _ fun vs S1 H1 e1 k1 r1 => by
    rw [List.append_nil]
    exact ⟨S1, a, k1.sub, r1, hp, fun v S2 H2 g r2 => q v S2 H2 (e1.trans g.s) (k1.grow g) r2⟩
theorem el_call {f : α → List β} (ha : EvA K t G a G1) (hp : pre a) : EvL K (tCall (spL K f pre) [] E t) G (f a) G1 := fun B S0 S σ H F k Q q =>
  ha B S0 S σ H F k _ fun vs S1 H1 e1 k1 r1 => by
    rw [List.append_nil]
    refine ⟨S1, a, k1.sub, r1, hp, fun p us S2 H2 g hp hs h2 r2 => ?_⟩
    obtain ⟨_, b, c⟩ := k1.free hp
    exact q p us S2 H2 (e1.trans g.s) (k1.grow g) hs b c h2 r2
end
end
end GL

namespace GL
open PySem L2
/-! ### targets -/
theorem wipe_get (σ : St) : ∀ (vs : List Nat) (k : Nat), (wipe σ vs)[k]? = if k ∈ vs ∧ k < σ.length then some none else σ[k]?
  | [], k => by simp [wipe]
  | v :: vs, k => by
    unfold wipe
    have ih := wipe_get σ vs k
    have hl := wipe_length σ vs
    by_cases e : v = k
    · subst e
      by_cases h : v < σ.length
      · rw [List.getElem?_set_self (by rw [hl]; exact h), if_pos ⟨List.mem_cons_self, h⟩]
      · rw [List.getElem?_eq_none (by rw [List.length_set, hl]; omega), if_neg (fun q => h q.2), List.getElem?_eq_none (by omega)]
    · rw [List.getElem?_set_ne e, ih]
      have : (k ∈ v :: vs) ↔ k ∈ vs := by
        simp only [List.mem_cons]
        exact ⟨fun q => q.resolve_left fun z => e z.symm, .inr⟩
      simp only [this]
theorem wipe_set {σ : St} {vs : List Nat} {j : Nat} {y : Option V} (h : j ∈ vs) : wipe (σ.set j y) vs = wipe σ vs := by
  apply List.ext_getElem?
  intro k
  rw [wipe_get, wipe_get, List.length_set]
  by_cases e : k ∈ vs ∧ k < σ.length
  · rw [if_pos e, if_pos e]
  · rw [if_neg e, if_neg e]
    by_cases ej : j = k
    · subst ej
      have : ¬ j < σ.length := fun q => e ⟨h, q⟩
      rw [List.getElem?_eq_none (by rw [List.length_set]; omega), List.getElem?_eq_none (by omega)]
    · rw [List.getElem?_set_ne ej]
def wipeG (G : List Sl) : List Nat → List Sl
  | [] => G
  | v :: vs => (wipeG G vs).set v .no
section
variable {K : Fg} {B S0 S1 S S' : Hp} {σ : St} {H H' : Hp} {F : Nat → List Addr} {G G' : List Sl}
theorem Kn.wipe (k : Kn K B S0 S σ H F G) : ∀ vs : List Nat, Kn K B S0 S (wipe σ vs) H F (wipeG G vs)
  | [] => k
  | v :: vs => (Kn.wipe k vs).setNo
/-- the frame's heap with one object more -/
theorem Kn.pin {p : Addr} {o : HO} (k : Kn K B S0 S σ H F G) (h : H p = some o) (hs : S p = none) (hf : ∀ j, p ∉ F j) : Kn K (upd B p o) S0 S σ H F G := by
  refine ⟨k.s0, k.sub, fun b x q => ?_, fun b x q => ?_, fun i b hb => ?_, k.dj, k.len, k.sl⟩
  · by_cases e : b = p
    · subst e
      rw [upd_same] at q
      rw [h, q]
    · rw [upd_ne e] at q
      exact k.keep b x q
  · by_cases e : b = p
    · subst e
      rw [hs, k.s0.free hs]
    · rw [upd_ne e] at q
      exact k.clean b x q
  · obtain ⟨h1, h2, h3⟩ := k.off i b hb
    have ne : b ≠ p := fun z => hf i (z ▸ hb)
    exact ⟨h1, by rw [upd_ne ne]; exact h2, h3⟩
theorem Kn.unpin {p : Addr} {o : HO} (k : Kn K (upd B p o) S0 S σ H F G) (hb : B p = none) : Kn K B S0 S σ H F G := by
  have e : Same B (upd B p o) := same_new hb
  refine ⟨k.s0, k.sub, e.trans k.keep, fun b x q => k.clean b x (e b x q), fun i b hb' => ?_, k.dj, k.len, k.sl⟩
  obtain ⟨h1, h2, h3⟩ := k.off i b hb'
  exact ⟨h1, e.free h2, h3⟩
/-- an object that is nobody's changes -/
theorem Kn.poke {p : Addr} {o : HO} (k : Kn K B S0 S σ H F G) (hs : S p = none) (hb : B p = none) (hf : ∀ j, p ∉ F j) : Kn K B S0 S σ (upd H p o) F G := by
  refine ⟨k.s0, fun b x q => ?_, fun b x q => ?_, k.clean, fun i b hb' => ?_, k.dj, k.len, fun i s q => ?_⟩
  · rw [upd_ne (ne_of_none q hs)]
    exact k.sub b x q
  · rw [upd_ne (ne_of_none q hb)]
    exact k.keep b x q
  · obtain ⟨h1, h2, w, h3⟩ := k.off i b hb'
    have ne : b ≠ p := fun z => hf i (z ▸ hb')
    exact ⟨h1, h2, w, by rw [upd_ne ne]; exact h3⟩
  · have z := k.sl i s q
    cases s with
    | no => exact True.intro
    | im x => exact z
    | ow x =>
      obtain ⟨v, h1, h2⟩ := z
      exact ⟨v, h1, Own.mono (Same.refl _) (fun b hb' => upd_ne fun z => hf i (z ▸ hb')) h2⟩

def TgG {α : Type} [Py α] (K : Fg) (g : TG) (x : α) (G G' : List Sl) (ts : List Nat) : Prop := (∀ j : Nat, j ∉ ts → G'[j]? = G[j]?) ∧
  ∀ B S0 S σ H F v, Kn K B S0 S σ H F G → Py.rep K S v x → ∀ Q : St → Hp → Prop, (∀ σ', Kn K B S0 S σ' H F G' → (∀ j : Nat, j ∉ ts → σ'[j]? = σ[j]?) → (∀ vs : List Nat, (∀ t ∈ ts, t ∈ vs) → L2.wipe σ' vs = L2.wipe σ vs) → Q σ' H) → g v σ H Q
section
variable {α β γ : Type} [Py α] [Py β] [Py γ] {x : α} {y : β} {z : γ} {g1 g2 g3 : TG} {G1 G2 G3 : List Sl} {t1 t2 t3 : List Nat}
theorem ne_of_notIn {j k : Nat} (h : k ∉ [j]) : j ≠ k := fun e => h (List.mem_singleton.mpr e.symm)
theorem tg_name {j : Nat} (hj : G[j]?.isSome = true) : TgG K (gName j) x G (G.set j (.im x)) [j] := ⟨fun k hk => List.getElem?_set_ne (ne_of_notIn hk), fun B S0 S σ H F v k r Q q =>
  q _ (k.set r hj) (fun k hk => List.getElem?_set_ne (ne_of_notIn hk)) fun vs hv => wipe_set (hv j (List.mem_singleton.mpr rfl))⟩
theorem notL {t1 t2 : List Nat} {j : Nat} (h : j ∉ t1 ++ t2) : j ∉ t1 ∧ j ∉ t2 := ⟨fun q => h (List.mem_append_left _ q), fun q => h (List.mem_append_right _ q)⟩
theorem tg_pair {xy : α × β} (h1 : TgG K g1 xy.1 G G1 t1) (h2 : TgG K g2 xy.2 G1 G2 t2) : TgG K (gTup K 2 (gCons g1 (gCons g2 gNil))) xy G G2 (t1 ++ t2) := ⟨fun j hj => (h2.1 j (notL hj).2).trans (h1.1 j (notL hj).1), fun B S0 S σ H F v k r Q q => by
  obtain ⟨p, a, b, rfl, hp, ra, rb⟩ := r
  refine ⟨p, [a, b], rfl, seqT k.sub hp, rfl, a, [b], rfl, h1.2 B S0 S σ H F a k ra _ fun σ1 k1 o1 w1 => ⟨b, [], rfl, h2.2 B S0 S σ1 H F b k1 rb _ fun σ2 k2 o2 w2 => ⟨rfl, q σ2 k2 (fun j hj => (o2 j (notL hj).2).trans (o1 j (notL hj).1)) fun vs hv => ?_⟩⟩⟩
  rw [w2 vs fun t ht => hv t (List.mem_append_right _ ht), w1 vs fun t ht => hv t (List.mem_append_left _ ht)]⟩
theorem tg_t3 {xy : T3 α β γ} (h1 : TgG K g1 xy.a G G1 t1) (h2 : TgG K g2 xy.b G1 G2 t2) (h3 : TgG K g3 xy.c G2 G3 t3) : TgG K (gTup K 3 (gCons g1 (gCons g2 (gCons g3 gNil)))) xy G G3 (t1 ++ (t2 ++ t3)) := ⟨fun j hj => ((h3.1 j (notL (notL hj).2).2).trans (h2.1 j (notL (notL hj).2).1)).trans (h1.1 j (notL hj).1), fun B S0 S σ H F v k r Q q => by
  obtain ⟨p, a, b, c, rfl, hp, ra, rb, rc⟩ := r
  refine ⟨p, [a, b, c], rfl, seqT k.sub hp, rfl, a, [b, c], rfl, h1.2 B S0 S σ H F a k ra _ fun σ1 k1 o1 w1 => ⟨b, [c], rfl, h2.2 B S0 S σ1 H F b k1 rb _ fun σ2 k2 o2 w2 => ⟨c, [], rfl, h3.2 B S0 S σ2 H F c k2 rc _ fun σ3 k3 o3 w3 =>
    ⟨rfl, q σ3 k3 (fun j hj => ((o3 j (notL (notL hj).2).2).trans (o2 j (notL (notL hj).2).1)).trans (o1 j (notL hj).1)) fun vs hv => ?_⟩⟩⟩⟩
  rw [w3 vs fun t ht => hv t (List.mem_append_right _ (List.mem_append_right _ ht)), w2 vs fun t ht => hv t (List.mem_append_right _ (List.mem_append_left _ ht)), w1 vs fun t ht => hv t (List.mem_append_left _ ht)]⟩
end

/-! ### statements -/
section
variable {α β γ : Type} [Py α] [Py β] [Py γ] {x : α} {y : β} {G1 G2 : List Sl} {te ta tb : TE} {t u w : TS} {E : Ends} {tt : TT} {b : Bool} {i j : Nat} {g : TG} {ts : List Nat}
theorem q_next (h : At K B S0 E.nx G) : At K B S0 (tNext E) G := h
theorem q_seq (h : At K B S0 (t { E with nx := u E }) G) : At K B S0 (tSeq t u E) G := h
theorem q_asg (h : EvX K te G x G1) (hg : TgG K g x G1 G2 ts) (k : At K B S0 (u E) G2) : At K B S0 (tSeq (tAsg te g) u E) G := fun S σ H F kn =>
  h B S0 S σ H F kn _ fun v S' H' e kn' r => hg.2 B S0 S' σ H' F v kn' r _ fun σ' k2 _ _ => k S' σ' H' F k2
theorem q_set (h : EvX K te G x G1) (hi : G1[i]?.isSome = true) (k : At K B S0 (u E) (G1.set i (.im x))) : At K B S0 (tSeq (tAsg te (gName i)) u E) G := q_asg h (tg_name hi) k
theorem q_own {xs : List α} (h : EvL K te G xs G1) (hi : G1[i]?.isSome = true) (k : At K B S0 (u E) (G1.set i (.ow xs))) : At K B S0 (tSeq (tAsg te (gName i)) u E) G := fun S σ H F kn =>
  h B S0 S σ H F kn _ fun p vs S' H' e kn' hs hb hf hp r => k S' _ H' _ (kn'.setOwn (v := .ref p) ⟨p, vs, rfl, rfl, hp, r⟩ hi hs hb ⟨_, hp⟩ hf)
theorem q_dnew (α : Type) [Py α] (hi : G[i]?.isSome = true) (k : At K B S0 (u E) (G.set i (.ow (Dct.emp : Dct α)))) : At K B S0 (tSeq (tAsg tDNewK (gName i)) u E) G := fun S σ H F kn =>
  el_dnew (Q := fun x H1 => gName i x σ H1 (u E)) kn fun p H' kn' hs hb hf hp => k S _ H' _ (kn'.setOwn (v := .ref p) ⟨p, [], rfl, rfl, hp, True.intro⟩ hi hs hb ⟨_, hp⟩ hf)
theorem q_ret (h : EvX K te G x G1) (k : RT K B S0 E.rt x G1) : At K B S0 (tSeq (tRet te) u E) G := fun S σ H F kn =>
  h B S0 S σ H F kn _ fun v S' H' e kn' r => k S' σ H' F v kn' r
theorem q_brk (k : At K B S0 E.bk G) : At K B S0 (tSeq tBreak u E) G := k
theorem q_cnt (k : At K B S0 E.ct G) : At K B S0 (tSeq tCont u E) G := k
theorem q_drop (h : EvX K te G x G1) (k : At K B S0 (u E) G1) : At K B S0 (tSeq (tDrop te) u E) G := fun S σ H F kn =>
  h B S0 S σ H F kn _ fun v S' H' e kn' r => k S' σ H' F kn'
theorem q_if (h : EvT K tt G b G1) (h1 : b = true → At K B S0 (t { E with nx := u E }) G1) (h2 : b = false → At K B S0 (w { E with nx := u E }) G1) : At K B S0 (tSeq (tIfS tt t w) u E) G := fun S σ H F kn =>
  h B S0 S σ H F kn _ fun S' H' e kn' => by
    cases b with
    | true => exact h1 rfl S' σ H' F kn'
    | false => exact h2 rfl S' σ H' F kn'
/-- the ways of a statement meet in one of the states P -/
theorem q_cut (P : List Sl → Prop) (h : At K B S0 (t { E with nx := Mid K B S0 P }) G) (k : ∀ G', P G' → At K B S0 (u E) G') : At K B S0 (Evl.tCut t u E) G := fun S σ H F kn =>
  ⟨Mid K B S0 P, h S σ H F kn, fun σ' H' ⟨S', F', G', kn', p⟩ => k G' p S' σ' H' F' kn'⟩
theorem q_cut1 (G' : List Sl) (h : At K B S0 (t { E with nx := Mid K B S0 (· = G') }) G) (k : At K B S0 (u E) G') : At K B S0 (Evl.tCut t u E) G := q_cut _ h fun _ e => by rw [e]; exact k
theorem q_ifc (h : EvT K tt G b G1) (h1 : b = true → At K B S0 (t E) G1) (h2 : b = false → At K B S0 (w E) G1) : At K B S0 (tIfS tt t w E) G := fun S σ H F kn =>
  h B S0 S σ H F kn _ fun S' H' e kn' => by
    cases b with
    | true => exact h1 rfl S' σ H' F kn'
    | false => exact h2 rfl S' σ H' F kn'
/-- the owned list in slot i: append, set, pop -/
theorem own_list {xs : List α} (kn : Kn K B S0 S σ H F G) (h : G[i]? = some (.ow xs)) : ∃ p vs, σ[i]? = some (some (.ref p)) ∧ F i = [p] ∧ H p = some (.lst vs) ∧ RepL K S vs xs := by
  obtain ⟨v, h1, p, vs, rfl, h2, h3, h4⟩ := kn.ow h
  exact ⟨p, vs, h1, h2, h3, h4⟩
theorem own_listUpd {xs : List α} {p : Addr} {vs : List V} (kn : Kn K B S0 S σ H F G) (h1 : σ[i]? = some (some (.ref p))) (h2 : F i = [p]) (r : RepL K S vs xs) : Kn K B S0 S σ (upd H p (.lst vs)) F (G.set i (.ow xs)) := by
  refine kn.mut h1 (fun q hq => upd_ne fun z => hq (by rw [h2, z]; exact List.mem_singleton.mpr rfl)) (fun q hq => ?_) ?_
  · rw [h2] at hq
    cases List.mem_singleton.mp hq
    exact ⟨_, upd_same⟩
  · exact ⟨p, vs, rfl, h2, upd_same, r⟩
theorem own_dict {d : Dct α} (kn : Kn K B S0 S σ H F G) (h : G[i]? = some (.ow d)) : ∃ p kvs, σ[i]? = some (some (.ref p)) ∧ F i = [p] ∧ H p = some (.dK kvs) ∧ RepD K S kvs d.l := by
  obtain ⟨v, h1, p, vs, rfl, h2, h3, h4⟩ := kn.ow h
  exact ⟨p, vs, h1, h2, h3, h4⟩
theorem own_dictUpd {d : Dct α} {p : Addr} {kvs : List (Key × V)} (kn : Kn K B S0 S σ H F G) (h1 : σ[i]? = some (some (.ref p))) (h2 : F i = [p]) (r : RepD K S kvs d.l) : Kn K B S0 S σ (upd H p (.dK kvs)) F (G.set i (.ow d)) := by
  refine kn.mut h1 (fun q hq => upd_ne fun z => hq (by rw [h2, z]; exact List.mem_singleton.mpr rfl)) (fun q hq => ?_) ?_
  · rw [h2] at hq
    cases List.mem_singleton.mp hq
    exact ⟨_, upd_same⟩
  · exact ⟨p, kvs, rfl, h2, upd_same, r⟩
theorem q_app {xs xs' : List α} (hl : G[i]? = some (.ow xs)) (h : EvX K te G x G1) (hl1 : G1[i]? = some (.ow xs')) (hz : xs'.length < sizeLine) (k : At K B S0 (u E) (G1.set i (.ow (xs' ++ [x])))) :
    At K B S0 (tSeq (tDrop (tBM K "list" rAppend (tVar i) (tCons te tNil))) u E) G := fun S σ H F kn => by
  obtain ⟨p, vs, h1, h2, h3, h4⟩ := own_list kn hl
  refine ⟨.ref p, h1, .inl ⟨rfl, _, SqL.of h3⟩, h B S0 S σ H F kn _ fun v S' H' e kn' r => ?_⟩
  obtain ⟨p', vs', h1', h2', h3', h4'⟩ := own_list kn' hl1
  rw [h1] at h1'
  cases h1'
  exact ⟨p, vs', v, rfl, rfl, h3', by rw [h4'.len]; exact hz, k S' σ _ F (own_listUpd kn' h1 h2' (h4'.snoc r))⟩
theorem q_setL {xs : List α} {n : Int} (h : EvX K te G x G1) (hi : EvX K tb G1 n G2) (hl1 : G1[i]? = some (.ow xs)) (hl : G2[i]? = some (.ow xs)) (hn : 0 ≤ n ∧ n < xs.length) (k : At K B S0 (u E) (G2.set i (.ow (xs.set n.toNat x)))) :
    At K B S0 (tSeq (tAsg te (gSub (tVar i) tb rSetL)) u E) G := fun S σ H F kn =>
  h B S0 S σ H F kn _ fun v S1 H1 e1 k1 r1 => by
    obtain ⟨p, vs, h1, h2, h3, h4⟩ := own_list k1 hl1
    refine ⟨.ref p, h1, hi B S0 S1 σ H1 F k1 _ fun w S2 H2 e2 k2 r2 => ?_⟩
    obtain ⟨p', vs', h1', h2', h3', h4'⟩ := own_list k2 hl
    rw [h1] at h1'
    cases h1'
    refine ⟨p, vs', n, n.toNat, rfl, r2, h3', ?_, k S2 σ _ F (own_listUpd k2 h1 h2' (h4'.set (Py.mono e2 r1)))⟩
    unfold ixN
    rw [if_pos hn.1, if_pos (by rw [h4'.len]; exact hn.2)]
theorem q_dput {d : Dct α} {n : Int} (h : EvX K te G x G1) (hk : EvX K tb G1 n G2) (hl1 : G1[i]? = some (.ow d)) {d' : Dct α} (hl : G2[i]? = some (.ow d')) (hz : d'.l.length < sizeLine) (k : At K B S0 (u E) (G2.set i (.ow (d'.put n x)))) :
    At K B S0 (tSeq (sDPut (tVar i) tb te) u E) G := fun S σ H F kn =>
  h B S0 S σ H F kn _ fun v S1 H1 e1 k1 r1 => by
    obtain ⟨p, vs, h1, h2, h3, h4⟩ := own_dict k1 hl1
    refine ⟨.ref p, h1, hk B S0 S1 σ H1 F k1 _ fun w S2 H2 e2 k2 r2 => ?_⟩
    obtain ⟨p', vs', h1', h2', h3', h4'⟩ := own_dict k2 hl
    rw [h1] at h1'
    cases h1'
    rw [show w = .int n from r2]
    exact ⟨p, _, rfl, DPut.k (k := Sum.inl n) h3' (by rw [h4'.len]; exact hz), k S2 σ _ F (own_dictUpd k2 h1 h2' (h4'.put n (Py.mono e2 r1)))⟩
/-- d.pop(k, None) as a statement -/
theorem q_dpop {d : Dct α} {n : Int} (hl : G[i]? = some (.ow d)) (hk : EvX K tb G n G) (k : At K B S0 (u E) (G.set i (.ow (d.del n)))) : At K B S0 (tSeq (tDrop (tDPop2 (tVar i) tb (tC .non))) u E) G := fun S σ H F kn => by
  obtain ⟨p, vs, h1, h2, h3, h4⟩ := own_dict kn hl
  refine ⟨.ref p, h1, p, rfl, .inl ⟨vs, .inl h3⟩, hk B S0 S σ H F kn _ fun w S2 H2 e2 k2 r2 => ?_⟩
  obtain ⟨p', vs', h1', h2', h3', h4'⟩ := own_dict k2 hl
  rw [h1] at h1'
  cases h1'
  rw [show w = .int n from r2]
  have kd := k S2 σ _ F (own_dictUpd k2 h1 h2' (d := d.del n) (h4'.del n))
  refine ⟨vs', Sum.inl n, h3', rfl, fun v _ => kd, fun hn => ?_⟩
  have e : dropK vs' (Sum.inl n) = vs' := dropK_no (valV_not hn)
  rw [e] at kd
  have e2 : upd H2 p (.dK vs') = H2 := by
    funext q
    by_cases z : q = p
    · rw [z, upd_same, h3']
    · rw [upd_ne z]
  rw [e2] at kd
  exact kd
end

/-! ### what is walked -/
def Wk {α : Type} [Py α] (K : Fg) (J : It) (S : Hp) (xs : List α) : Prop := ∀ S' H' i, Same S S' → Same S' H' →
  (∀ x, xs[i]? = some x → J.go i H' ∧ ∀ v H'', J.yld i H' v H'' → ∃ S'', Grow S' H' S'' H'' ∧ Py.rep K S'' v x) ∧ (xs.length ≤ i → J.stop i H')
def ItG {α : Type} [Py α] (K : Fg) (wi : TI) (G : List Sl) (xs : List α) (G' : List Sl) : Prop :=
  ∀ B S0 S σ H F, Kn K B S0 S σ H F G → ∀ R : It → Hp → Prop, (∀ J S' H', Same S S' → Kn K B S0 S' σ H' F G' → Wk K J S' xs → R J H') → wi σ H R
def rng (a b : Int) : List Int := (List.range (b - a).toNat).map fun (i : Nat) => a + (i : Int)
def enumI {α : Type} (xs : List α) : List (Int × α) := (xs.zipIdx).map fun p => ((p.2 : Int), p.1)
section
variable {α β : Type} [Py α] [Py β] {G1 G2 : List Sl} {tl ta tb : TE}
theorem wk_list {S : Hp} {p : Addr} {vs : List V} {xs : List α} (hp : S p = some (.lst vs)) (r : RepL K S vs xs) : Wk K (Itl K p) S xs := fun S' H' i e1 e2 => by
  have h1 : SqL K H' p vs := SqL.of (e2 _ _ (e1 _ _ hp))
  refine ⟨fun x hx => ?_, fun hl => ⟨vs, h1, by rw [r.len]; exact hl⟩⟩
  obtain ⟨v, hv, rv⟩ := r.get hx
  refine ⟨⟨vs, v, h1, hv⟩, fun w H'' y => ?_⟩
  obtain ⟨rfl, y⟩ := y
  have e := y vs h1
  rw [hv] at e
  cases e
  exact ⟨S', Grow.refl e2, Py.mono e1 rv⟩
theorem it_list {xs : List α} (h : EvX K tl G xs G1) : ItG K (iList K tl) G xs G1 := fun B S0 S σ H F k R q =>
  h B S0 S σ H F k _ fun v S1 H1 e1 k1 r1 => by
    obtain ⟨p, vs, rfl, hp, hr⟩ := r1
    exact ⟨p, rfl, ⟨vs, SqL.of (k1.sub _ _ hp)⟩, q _ S1 H1 e1 k1 (wk_list hp hr)⟩
theorem wk_tup {S : Hp} {p : Addr} {vs : List V} {xs : List α} (hp : SqT K S p vs) (r : RepL K S vs xs) : Wk K (Itt K p) S xs := fun S' H' i e1 e2 => by
  have h1 : SqT K H' p vs := seqT e2 (seqT e1 hp)
  refine ⟨fun x hx => ?_, fun hl => ⟨vs, h1, by rw [r.len]; exact hl⟩⟩
  obtain ⟨v, hv, rv⟩ := r.get hx
  refine ⟨⟨vs, v, h1, hv⟩, fun w H'' y => ?_⟩
  obtain ⟨rfl, y⟩ := y
  have e := y vs h1
  rw [hv] at e
  cases e
  exact ⟨S', Grow.refl e2, Py.mono e1 rv⟩
theorem it_tup {xs : Tp α} (h : EvX K tl G xs G1) : ItG K (iTup K tl) G xs.l G1 := fun B S0 S σ H F k R q =>
  h B S0 S σ H F k _ fun v S1 H1 e1 k1 r1 => by
    obtain ⟨p, vs, rfl, hp, hr⟩ := r1
    exact ⟨p, rfl, ⟨vs, seqT k1.sub hp⟩, q _ S1 H1 e1 k1 (wk_tup hp hr)⟩
theorem wk_rng {S : Hp} (a : Int) (n : Nat) : Wk K (Itr a n) S ((List.range n).map fun (i : Nat) => a + (i : Int)) := fun S' H' i e1 e2 => by
  refine ⟨fun x hx => ?_, fun hl => by rw [List.length_map, List.length_range] at hl; exact hl⟩
  have hi : i < n := by
    have := (List.getElem?_eq_some_iff.mp hx).1
    rw [List.length_map, List.length_range] at this
    exact this
  rw [List.getElem?_map, List.getElem?_range hi] at hx
  cases hx
  refine ⟨hi, fun w H'' y => ?_⟩
  obtain ⟨rfl, rfl⟩ := y
  exact ⟨S', Grow.refl e2, rfl⟩
theorem it_rng1 {n : Int} (h : EvX K ta G n G1) (hn : -4611686018427387904 ≤ n ∧ n < 4611686018427387904) : ItG K (iRng1 (tCons ta tNil)) G (rng 0 n) G1 := fun B S0 S σ H F k R q =>
  h B S0 S σ H F k _ fun v S1 H1 e1 k1 r1 => ⟨n, by rw [show v = .int n from r1], hn.1, hn.2, q _ S1 H1 e1 k1 (by
    have := wk_rng (K := K) (S := S1) 0 n.toNat
    unfold rng
    rw [Int.sub_zero]
    exact this)⟩
theorem it_rng2 {a n : Int} (ha : EvX K ta G a G1) (h : EvX K tb G1 n G2) (hn : (-4611686018427387904 ≤ a ∧ a < 4611686018427387904) ∧ -4611686018427387904 ≤ n ∧ n < 4611686018427387904) : ItG K (iRng2 (tCons ta (tCons tb tNil))) G (rng a n) G2 := fun B S0 S σ H F k R q =>
  ha B S0 S σ H F k _ fun v S1 H1 e1 k1 r1 => h B S0 S1 σ H1 F k1 _ fun w S2 H2 e2 k2 r2 => ⟨a, n, by rw [show v = .int a from r1, show w = .int n from r2], ⟨hn.1.1, hn.1.2, hn.2.1, hn.2.2⟩, q _ S2 H2 (e1.trans e2) k2 (wk_rng a _)⟩
theorem wk_enum {S : Hp} {p : Addr} {vs : List V} {xs : List α} (hp : S p = some (.lst vs)) (r : RepL K S vs xs) : Wk K (Ite K p) S (enumI xs) := fun S' H' i e1 e2 => by
  have h1 : SqL K H' p vs := SqL.of (e2 _ _ (e1 _ _ hp))
  have hlen : (enumI xs).length = xs.length := by unfold enumI; rw [List.length_map, List.length_zipIdx]
  refine ⟨fun x hx => ?_, fun hl => ⟨vs, h1, by rw [r.len, ← hlen]; exact hl⟩⟩
  have hi : i < xs.length := by
    rw [← hlen]
    exact (List.getElem?_eq_some_iff.mp hx).1
  have ex : x = ((i : Int), xs[i]) := by
    unfold enumI at hx
    rw [List.getElem?_map, List.getElem?_zipIdx, List.getElem?_eq_getElem hi] at hx
    simpa using hx.symm
  subst ex
  obtain ⟨v, hv, rv⟩ := r.get (List.getElem?_eq_getElem hi)
  refine ⟨⟨vs, v, h1, hv⟩, fun w H'' y => ?_⟩
  obtain ⟨T, u, rfl, hT, rfl, y⟩ := y
  have e := y vs h1
  rw [hv] at e
  cases e
  have g := Grow.new (o := .tup [.int (i : Nat), v]) e2 hT
  exact ⟨_, g, T, _, v, rfl, SqT.of upd_same, rfl, Py.mono (e1.trans g.s) rv⟩
theorem it_enum {xs : List α} (h : EvX K ta G xs G1) : ItG K (iEnum K (tCons ta tNil)) G (enumI xs) G1 := fun B S0 S σ H F k R q =>
  h B S0 S σ H F k _ fun v S1 H1 e1 k1 r1 => by
    obtain ⟨p, vs, rfl, hp, hr⟩ := r1
    exact ⟨p, vs, rfl, SqL.of (k1.sub _ _ hp), q _ S1 H1 e1 k1 (wk_enum hp hr)⟩
theorem wk_rev {S : Hp} {p : Addr} {vs : List V} {xs : List α} (hp : S p = some (.lst vs)) (r : RepL K S vs xs) : Wk K (Itv K p vs.length) S xs.reverse := fun S' H' i e1 e2 => by
  have h1 : SqL K H' p vs := SqL.of (e2 _ _ (e1 _ _ hp))
  refine ⟨fun x hx => ?_, fun hl => by show vs.length ≤ i; rw [r.len]; rw [List.length_reverse] at hl; exact hl⟩
  have hi : i < xs.length := by
    have := (List.getElem?_eq_some_iff.mp hx).1
    rw [List.length_reverse] at this
    exact this
  rw [List.getElem?_reverse hi] at hx
  obtain ⟨v, hv, rv⟩ := r.get hx
  have hl := r.len
  rw [← hl] at hv
  refine ⟨⟨by omega, vs, v, h1, hv⟩, fun w H'' y => ?_⟩
  obtain ⟨rfl, y⟩ := y
  have e := y vs h1
  rw [hv] at e
  cases e
  exact ⟨S', Grow.refl e2, Py.mono e1 rv⟩
theorem it_rev {xs : List α} (h : EvX K ta G xs G1) : ItG K (iRev K (tCons ta tNil)) G xs.reverse G1 := fun B S0 S σ H F k R q =>
  h B S0 S σ H F k _ fun v S1 H1 e1 k1 r1 => by
    obtain ⟨p, vs, rfl, hp, hr⟩ := r1
    exact ⟨p, vs, rfl, SqL.of (k1.sub _ _ hp), q _ S1 H1 e1 k1 (wk_rev hp hr)⟩
theorem wk_zip {S : Hp} {p p' : Addr} {vs vs' : List V} {xs : List α} {ys : List β} (hp : S p = some (.lst vs)) (r : RepL K S vs xs) (hp' : S p' = some (.lst vs')) (r' : RepL K S vs' ys) : Wk K (Itz K p p') S (xs.zip ys) := fun S' H' i e1 e2 => by
  have h1 : SqL K H' p vs := SqL.of (e2 _ _ (e1 _ _ hp))
  have h2 : SqL K H' p' vs' := SqL.of (e2 _ _ (e1 _ _ hp'))
  refine ⟨fun x hx => ?_, fun hl => ⟨vs, vs', h1, h2, ?_⟩⟩
  · have hi := (List.getElem?_eq_some_iff.mp hx).1
    rw [List.length_zip] at hi
    have hx1 : xs[i]? = some x.1 := by
      rw [List.getElem?_eq_getElem (show i < (xs.zip ys).length by rw [List.length_zip]; exact hi), List.getElem_zip] at hx
      cases hx
      exact List.getElem?_eq_getElem _
    have hx2 : ys[i]? = some x.2 := by
      rw [List.getElem?_eq_getElem (show i < (xs.zip ys).length by rw [List.length_zip]; exact hi), List.getElem_zip] at hx
      cases hx
      exact List.getElem?_eq_getElem _
    obtain ⟨v, hv, rv⟩ := r.get hx1
    obtain ⟨v', hv', rv'⟩ := r'.get hx2
    refine ⟨⟨vs, vs', v, v', h1, h2, hv, hv'⟩, fun w H'' y => ?_⟩
    obtain ⟨T, u, u', rfl, hT, rfl, y1, y2⟩ := y
    have e := y1 vs h1
    rw [hv] at e
    cases e
    have e := y2 vs' h2
    rw [hv'] at e
    cases e
    have g := Grow.new (o := .tup [v, v']) e2 hT
    exact ⟨_, g, T, v, v', rfl, SqT.of upd_same, Py.mono (e1.trans g.s) rv, Py.mono (e1.trans g.s) rv'⟩
  · rw [List.length_zip] at hl
    rw [r.len, r'.len]
    omega
theorem it_zip {xs : List α} {ys : List β} (h : EvX K ta G xs G1) (h' : EvX K tb G1 ys G2) : ItG K (iZip K (tCons ta (tCons tb tNil))) G (xs.zip ys) G2 := fun B S0 S σ H F k R q =>
  h B S0 S σ H F k _ fun v S1 H1 e1 k1 r1 => h' B S0 S1 σ H1 F k1 _ fun w S2 H2 e2 k2 r2 => by
    obtain ⟨p, vs, rfl, hp, hr⟩ := Py.mono e2 r1
    obtain ⟨p', vs', rfl, hp', hr'⟩ := r2
    exact ⟨p, p', vs, vs', rfl, SqL.of (k2.sub _ _ hp), SqL.of (k2.sub _ _ hp'), q _ S2 H2 (e1.trans e2) k2 (wk_zip hp hr hp' hr')⟩
end

/-! ### for -/
section
variable {α : Type} [Py α] {G1 : List Sl} {wi : TI} {g : TG} {tb u : TS} {E : Ends} {xs : List α}
/-- I pre post G: the items pre are done, post are left, the state is G -/
theorem q_for (I : List α → List α → List Sl → Prop) (hi : ItG K wi G xs G1) (h0 : I [] xs G1)
    (hs : ∀ pre x post Gi, pre ++ x :: post = xs → I pre (x :: post) Gi → ∀ S1, Reb B S0 S1 → ∃ G2 ts, TgG K g x Gi G2 ts ∧ At K B S1 (tb { E with nx := Mid K B S1 (I (pre ++ [x]) post), ct := Mid K B S1 (I (pre ++ [x]) post), bk := u E }) G2)
    (hd : ∀ Gi, I xs [] Gi → At K B S0 (u E) Gi) : At K B S0 (tSeq (tFor wi g tb) u E) G := fun S σ H F kn =>
  hi B S0 S σ H F kn _ fun J S1 H1 e1 k1 wk => by
    have rb : Reb B S0 S1 := k1.rebOf
    refine ⟨fun i m σ H => ∃ pre post S F Gi, pre ++ post = xs ∧ pre.length = i ∧ post.length = m ∧ Kn K B S1 S σ H F Gi ∧ I pre post Gi, ⟨xs.length, [], xs, S1, F, G1, rfl, rfl, rfl, k1.reb, h0⟩, ?_⟩
    rintro i m σ' H' ⟨pre, post, S2, F2, Gi, ex, rfl, rfl, k2, p⟩
    cases post with
    | nil =>
      refine .inl ⟨(wk S2 H' pre.length k2.s0 k2.sub).2 (by rw [← ex, List.append_nil]; exact Nat.le_refl _), ?_⟩
      rw [List.append_nil] at ex
      subst ex
      exact hd Gi p S2 σ' H' F2 (k2.unreb rb)
    | cons x post =>
      have hx : xs[pre.length]? = some x := by
        rw [← ex, List.getElem?_append_right (Nat.le_refl _), Nat.sub_self]
        rfl
      obtain ⟨go, yl⟩ := (wk S2 H' pre.length k2.s0 k2.sub).1 x hx
      refine .inr ⟨go, Mid K B S1 (I (pre ++ [x]) post), ?_, ?_⟩
      · rintro σ3 H3 ⟨S3, F3, G3, k3, p3⟩
        exact ⟨post.length, by rw [List.length_cons]; omega, pre ++ [x], post, S3, F3, G3, by rw [← ex, List.append_assoc]; rfl, by rw [List.length_append]; rfl, rfl, k3, p3⟩
      · intro v H3 y
        obtain ⟨S3, gr, r⟩ := yl v H3 y
        obtain ⟨G2, ts, tg, bd⟩ := hs pre x post Gi ex p S1 rb
        exact tg.2 B S1 S3 σ' H3 F2 v (k2.grow gr) r _ fun σ4 k4 _ _ => bd S3 σ4 H3 F2 k4
/-- a loop that is never left: a fold -/
theorem q_fold {τ : Type} (γ : τ → List Sl) (step : τ → α → τ) (s0 : τ) (hi : ItG K wi G xs G1) (h0 : Le (γ s0) G1)
    (hs : ∀ pre x post, pre ++ x :: post = xs → ∀ S1, Reb B S0 S1 → ∃ G2 ts, TgG K g x (γ (pre.foldl step s0)) G2 ts ∧
      At K B S1 (tb { E with nx := Mid K B S1 (· = γ (step (pre.foldl step s0) x)), ct := Mid K B S1 (· = γ (step (pre.foldl step s0) x)), bk := u E }) G2)
    (hd : At K B S0 (u E) (γ (xs.foldl step s0))) : At K B S0 (tSeq (tFor wi g tb) u E) G := by
  have hi' : ItG K wi G xs (γ s0) := fun B S0 S σ H F k R q => hi B S0 S σ H F k R fun J S' H' e k' w => q J S' H' e (k'.le h0) w
  refine q_for (fun pre post Gi => Gi = γ (pre.foldl step s0)) hi' rfl (fun pre x post Gi ex p S1 rb => ?_) fun Gi p => by rw [p]; exact hd
  subst p
  obtain ⟨G2, ts, tg, bd⟩ := hs pre x post ex S1 rb
  refine ⟨G2, ts, tg, ?_⟩
  have e : ∀ Gi, (Gi = γ ((pre ++ [x]).foldl step s0)) = (Gi = γ (step (pre.foldl step s0) x)) := fun Gi => by rw [List.foldl_append]; rfl
  have e2 : (fun Gi => Gi = γ ((pre ++ [x]).foldl step s0)) = (fun Gi => Gi = γ (step (pre.foldl step s0) x)) := funext e
  show At K B S1 (tb { E with nx := Mid K B S1 (fun Gi => Gi = γ ((pre ++ [x]).foldl step s0)), ct := Mid K B S1 (fun Gi => Gi = γ ((pre ++ [x]).foldl step s0)), bk := u E }) G2
  rw [e2]
  exact bd
end
/-! ### while -/
section
variable {tt : TT} {tb u : TS} {E : Ends}
theorem q_while (I : Nat → List Sl → Prop) (m0 : Nat) (h0 : I m0 G) (hs : ∀ m Gi, I m Gi → ∀ S1, Reb B S0 S1 → ∃ b, EvT K tt Gi b Gi ∧
      (b = true → At K B S1 (tb { E with nx := Mid K B S1 (fun G' => ∃ m', m' < m ∧ I m' G'), ct := Mid K B S1 (fun G' => ∃ m', m' < m ∧ I m' G'), bk := u E }) Gi) ∧ (b = false → At K B S1 (u E) Gi)) :
    At K B S0 (tSeq (tWhile tt tb) u E) G := fun S σ H F kn => by
  refine ⟨fun m σ H => ∃ S F Gi, Kn K B S0 S σ H F Gi ∧ I m Gi, ⟨m0, S, F, G, kn, h0⟩, ?_⟩
  rintro m σ' H' ⟨S1, F1, Gi, k1, p⟩
  obtain ⟨b, ht, h1, h2⟩ := hs m Gi p S0 Reb.refl
  refine ht B S0 S1 σ' H' F1 k1 _ fun S2 H2 e2 k2 => ?_
  cases b with
  | true =>
    refine ⟨Mid K B S0 (fun G' => ∃ m', m' < m ∧ I m' G'), ?_, h1 rfl S2 σ' H2 F1 k2⟩
    rintro σ3 H3 ⟨S3, F3, G3, k3, m', hm, p3⟩
    exact ⟨m', hm, S3, F3, G3, k3, p3⟩
  | false => exact h2 rfl S2 σ' H2 F1 k2
end
/-! ### comprehensions -/
def Sl.isOw : Sl → Bool
  | @Sl.ow _ _ _ => true
  | _ => false
theorem wipeG_get (G : List Sl) : ∀ (vs : List Nat) (k : Nat), k ∉ vs → (wipeG G vs)[k]? = G[k]?
  | [], _, _ => rfl
  | v :: vs, k, h => by
    unfold wipeG
    rw [List.getElem?_set_ne fun e => h (by rw [e]; exact List.mem_cons_self)]
    exact wipeG_get G vs k fun q => h (List.mem_cons_of_mem _ q)
theorem wipe_get' {σ : St} {vs : List Nat} {k : Nat} (h : k ∉ vs) : (L2.wipe σ vs)[k]? = σ[k]? := by
  rw [wipe_get, if_neg fun q => h q.1]
section
variable {α β τ : Type} [Py α] [Py β] {G1 : List Sl} {wi : TI} {g : TG} {tt : TT} {te : TE} {vs : List Nat} {xs : List α}
/-- what a block leaves, seen from without -/
theorem Kn.outer {B1 : Hp} {G2 Gn : List Sl} {σ2 : St} (k : Kn K B S0 S σ H F G) (e : Same S S') (k2 : Kn K B1 S0 S' σ2 H' F G2) (hb : Same B B1) (hσ : ∀ j : Nat, j ∉ vs → σ2[j]? = σ[j]?)
    (hG : ∀ j s, Gn[j]? = some s → (j ∉ vs ∧ G2[j]? = some s) ∨ (s.isOw = false ∧ G[j]? = some s)) (hl : Gn.length = G.length) : Kn K B S0 S' σ H' F Gn := by
  refine ⟨k2.s0, k2.sub, hb.trans k2.keep, fun p o q => k2.clean p o (hb p o q), fun i p hp => ?_, k2.dj, hl.trans k.len, fun j s hj => ?_⟩
  · obtain ⟨h1, h2, h3⟩ := k2.off i p hp
    exact ⟨h1, hb.free h2, h3⟩
  · rcases hG j s hj with ⟨hv, h2⟩ | ⟨ho, h1⟩
    · have z := k2.sl j s h2
      rw [hσ j hv] at z
      exact z
    · have z := k.sl j s h1
      cases s with
      | no => exact True.intro
      | im x =>
        obtain ⟨v, h1, h2⟩ := z
        exact ⟨v, h1, Py.mono e h2⟩
      | ow x => cases ho
/-- the general form: the state γ s turns with the items -/
theorem el_lcX (γ : τ → List Sl) (s0 : τ) (step : τ → α → τ) (f : τ → α → Bool) (e : τ → α → β) (hi : ItG K wi G xs (γ s0)) (hl : xs.length ≤ 1000000)
    (hs : ∀ pre x post, pre ++ x :: post = xs → ∀ s, s = pre.foldl step s0 → ∃ G2 ts, TgG K g x (wipeG (γ s) vs) G2 ts ∧ (∀ t ∈ ts, t ∈ vs) ∧ ∃ G3 G4, EvT K tt G2 (f s x) G3 ∧ (f s x = true → EvX K te G3 (e s x) G4) ∧ (f s x = false → G4 = G3) ∧
      (∀ j sl, (γ (step s x))[j]? = some sl → (j ∉ vs ∧ G4[j]? = some sl) ∨ (sl.isOw = false ∧ (γ s)[j]? = some sl)) ∧ (γ (step s x)).length = (γ s).length) :
    EvL K (tLc wi g tt te vs) G ((xs.foldl (fun (a : List β × τ) x => (if f a.2 x = true then a.1 ++ [e a.2 x] else a.1, step a.2 x)) ([], s0)).1) (γ (xs.foldl step s0)) := fun B S0 S σ H F kn Q q =>
  hi B S0 S σ H F kn _ fun J S1 H1 e1 k1 wk D hD => by
    obtain ⟨a1, a2, a3⟩ := k1.free hD
    have hsnd : ∀ (l : List α) (a : List β) (s : τ), (l.foldl (fun (a : List β × τ) x => (if f a.2 x = true then a.1 ++ [e a.2 x] else a.1, step a.2 x)) (a, s)).2 = l.foldl step s := by
      intro l
      induction l with
      | nil => intro a s; rfl
      | cons x l ih => intro a s; rw [List.foldl_cons, List.foldl_cons]; exact ih _ _
    refine ⟨fun i m H => ∃ pre post S acc, pre ++ post = xs ∧ pre.length = i ∧ post.length = m ∧ Kn K B S0 S σ H F (γ (pre.foldl step s0)) ∧ Same S1 S ∧ S D = none ∧ H D = some (.lst acc) ∧ acc.length ≤ pre.length ∧ RepL K S acc ((pre.foldl (fun (a : List β × τ) x => (if f a.2 x = true then a.1 ++ [e a.2 x] else a.1, step a.2 x)) ([], s0)).1),
      ⟨xs.length, [], xs, S1, [], rfl, rfl, rfl, k1.raw hD, Same.refl _, a1, upd_same, Nat.le_refl _, True.intro⟩, ?_⟩
    rintro i m H' ⟨pre, post, S2, acc, ex, rfl, rfl, k2, s2, d2, hd2, hacc, r2⟩
    cases post with
    | nil =>
      refine .inl ⟨(wk S2 H' pre.length s2 k2.sub).2 (by rw [← ex, List.append_nil]; exact Nat.le_refl _), ?_⟩
      rw [List.append_nil] at ex
      subst ex
      exact q D acc S2 H' (e1.trans s2) k2 d2 a2 a3 hd2 r2
    | cons x post =>
      have hx : xs[pre.length]? = some x := by
        rw [← ex, List.getElem?_append_right (Nat.le_refl _), Nat.sub_self]
        rfl
      obtain ⟨go, yl⟩ := (wk S2 H' pre.length s2 k2.sub).1 x hx
      have hlen : pre.length < 1000000 := by
        have := congrArg List.length ex
        rw [List.length_append, List.length_cons] at this
        omega
      refine .inr ⟨go, fun H => ∃ S acc, Kn K B S0 S σ H F (γ ((pre ++ [x]).foldl step s0)) ∧ Same S1 S ∧ S D = none ∧ H D = some (.lst acc) ∧ acc.length ≤ (pre ++ [x]).length ∧ RepL K S acc (((pre ++ [x]).foldl (fun (a : List β × τ) x => (if f a.2 x = true then a.1 ++ [e a.2 x] else a.1, step a.2 x)) ([], s0)).1), ?_, ?_⟩
      · rintro H3 ⟨S3, acc3, k3, s3, d3, hd3, ha3, r3⟩
        exact ⟨post.length, by rw [List.length_cons]; omega, pre ++ [x], post, S3, acc3, by rw [← ex, List.append_assoc]; rfl, by rw [List.length_append]; rfl, rfl, k3, s3, d3, hd3, ha3, r3⟩
      · intro v H3 y
        obtain ⟨S3, gr, r⟩ := yl v H3 y
        obtain ⟨G2, ts, tg, hts, G3, G4, ht, he, hn, hG, hlG⟩ := hs pre x post ex _ rfl
        have k3 := k2.grow gr
        have hd3 := gr.h D _ hd2
        have d3 : S3 D = none := (gr.cl D _ hd2).trans d2
        have kp := (k3.wipe vs).pin hd3 d3 a3
        have ef : (pre ++ [x]).foldl step s0 = step (pre.foldl step s0) x := by rw [List.foldl_append]; rfl
        have ea : ((pre ++ [x]).foldl (fun (a : List β × τ) x => (if f a.2 x = true then a.1 ++ [e a.2 x] else a.1, step a.2 x)) ([], s0)).1 =
            if f (pre.foldl step s0) x = true then (pre.foldl (fun (a : List β × τ) x => (if f a.2 x = true then a.1 ++ [e a.2 x] else a.1, step a.2 x)) ([], s0)).1 ++ [e (pre.foldl step s0) x] else (pre.foldl (fun (a : List β × τ) x => (if f a.2 x = true then a.1 ++ [e a.2 x] else a.1, step a.2 x)) ([], s0)).1 := by
          rw [List.foldl_append, List.foldl_cons, List.foldl_nil, hsnd]
        rw [ef, ea]
        refine tg.2 (upd B D (.lst acc)) S0 S3 _ H3 F v kp r _ fun σ4 k4 o4 w4 => ⟨?_, ?_⟩
        · rw [w4 vs hts]
          apply List.ext_getElem?
          intro j
          rw [wipe_get, wipe_get, wipe_length]
          by_cases c : j ∈ vs ∧ j < σ.length
          · rw [if_pos c, if_pos c]
          · rw [if_neg c, if_neg c]
        · have hσ : ∀ j : Nat, j ∉ vs → σ4[j]? = σ[j]? := fun j hj => (o4 j fun q => hj (hts j q)).trans (wipe_get' hj)
          refine ht (upd B D (.lst acc)) S0 S3 σ4 H3 F k4 _ fun S5 H5 e5 k5 => ?_
          cases hf : f (pre.foldl step s0) x with
          | false =>
            have e4 := hn hf
            subst e4
            simp only [Bool.false_eq_true, if_false]
            have hd5 : H5 D = some (.lst acc) := k5.keep _ _ upd_same
            have d5 : S5 D = none := (k5.clean D _ upd_same).trans (k3.s0.free d3)
            exact ⟨S5, acc, Kn.outer k3 e5 k5 (same_new a2) hσ hG hlG, (s2.trans gr.s).trans e5, d5, hd5, by rw [List.length_append]; omega, r2.mono (gr.s.trans e5)⟩
          | true =>
            simp only [if_true]
            refine he hf (upd B D (.lst acc)) S0 S5 σ4 H5 F k5 _ fun v6 S6 H6 e6 k6 r6 => ?_
            have hd6 : H6 D = some (.lst acc) := k6.keep _ _ upd_same
            have d6 : S6 D = none := (k6.clean D _ upd_same).trans (k3.s0.free d3)
            refine ⟨acc, hd6, Nat.lt_of_le_of_lt hacc (Nat.lt_trans hlen (by decide)), S6, acc ++ [v6], (Kn.outer k3 (e5.trans e6) k6 (same_new a2) hσ hG hlG).poke d6 a2 a3, (s2.trans gr.s).trans (e5.trans e6), d6, upd_same, ?_, ?_⟩
            · rw [List.length_append, List.length_append]
              simp only [List.length_singleton]
              omega
            · exact (r2.mono (gr.s.trans (e5.trans e6))).snoc r6
theorem foldl_fm (f : α → Bool) (e : α → β) : ∀ (l : List α) (a : List β), (l.foldl (fun (a : List β × Unit) x => (if f x = true then a.1 ++ [e x] else a.1, ())) (a, ())).1 = a ++ (l.filter f).map e
  | [], a => by simp
  | x :: l, a => by
    rw [List.foldl_cons, foldl_fm f e l, List.filter_cons]
    cases f x with
    | true => simp
    | false => simp
/-- nothing turns -/
theorem el_lcF (f : α → Bool) (e : α → β) (hi : ItG K wi G xs G1) (hl : xs.length ≤ 1000000) (hw : (vs.all fun j => !((G1[j]?.map Sl.isOw).getD false)) = true)
    (hs : ∀ x, x ∈ xs → ∃ G2 ts, TgG K g x (wipeG G1 vs) G2 ts ∧ (∀ t ∈ ts, t ∈ vs) ∧ EvT K tt G2 (f x) G2 ∧ (f x = true → EvX K te G2 (e x) G2)) :
    EvL K (tLc wi g tt te vs) G ((xs.filter f).map e) G1 := by
  have h := el_lcX (K := K) (wi := wi) (g := g) (tt := tt) (te := te) (vs := vs) (G := G) (fun _ : Unit => G1) () (fun _ _ => ()) (fun _ => f) (fun _ => e) hi hl (fun pre x post ex s _ => by
    obtain ⟨G2, ts, tg, hts, ht, he⟩ := hs x (by rw [← ex]; exact List.mem_append_right _ List.mem_cons_self)
    refine ⟨G2, ts, tg, hts, G2, G2, ht, he, fun _ => rfl, fun j sl hj => ?_, rfl⟩
    by_cases hv : j ∈ vs
    · have := List.all_eq_true.mp hw j hv
      rw [hj] at this
      exact .inr ⟨by simpa using this, hj⟩
    · refine .inl ⟨hv, ?_⟩
      rw [tg.1 j fun q => hv (hts j q), wipeG_get _ _ _ hv]
      exact hj)
  have e1 := foldl_fm f e xs []
  rw [List.nil_append] at e1
  rw [e1] at h
  exact h
theorem el_lcM (e : α → β) (hi : ItG K wi G xs G1) (hl : xs.length ≤ 1000000) (hw : (vs.all fun j => !((G1[j]?.map Sl.isOw).getD false)) = true)
    (hs : ∀ x, x ∈ xs → ∃ G2 ts, TgG K g x (wipeG G1 vs) G2 ts ∧ (∀ t ∈ ts, t ∈ vs) ∧ EvX K te G2 (e x) G2) : EvL K (tLc wi g tYes te vs) G (xs.map e) G1 := by
  have h := el_lcF (K := K) (wi := wi) (g := g) (tt := tYes) (te := te) (vs := vs) (G := G) (fun _ => true) e hi hl hw fun x hx => by
    obtain ⟨G2, ts, a, b, c⟩ := hs x hx
    exact ⟨G2, ts, a, b, et_yes, fun _ => c⟩
  have ef : xs.filter (fun _ => true) = xs := List.filter_eq_self.mpr fun _ _ => rfl
  rw [ef] at h
  exact h
end
end
end GL

namespace GL
open PySem PySem.Spec PyProof.Rows L2
/-! ### defs -/
class Sls (α : Type) extends PyA α where
  sls : α → List Sl
  ok : ∀ {K : Fg} {S H : Hp} {vs : List V} {x : α}, toPyA.rep K S vs x → (sls x).length = vs.length ∧ ∀ (i : Nat) (s : Sl), (sls x)[i]? = some s → SlOk K S H (vs.map some)[i]? [] s
instance : Sls Unit := ⟨fun _ => [], fun h => ⟨by rw [show _ = [] from h]; rfl, fun i s e => by simp at e⟩⟩
instance {α β : Type} [Py α] [Sls β] : Sls (α × β) := ⟨fun x => .im x.1 :: Sls.sls x.2, fun {K S H vs x} h => by
  obtain ⟨v, ws, rfl, h1, h2⟩ := h
  obtain ⟨l, q⟩ := Sls.ok (H := H) h2
  refine ⟨by rw [List.length_cons, List.length_cons, l], fun i s e => ?_⟩
  cases i with
  | zero =>
    simp only [List.getElem?_cons_zero, Option.some.injEq] at e
    subst e
    exact ⟨v, rfl, h1⟩
  | succ i =>
    have := q i s (by simpa using e)
    simpa using this⟩
structure Cal (P : Program) (w : World) (K : Fg) (mg : Str → Option Value) (base : Heap) (k : Nat) (x : Str) (ps : List Str) (sp : Sp) : Prop where
  ex : ∃ (f : Addr) (fd : FuncData), mg x = some (.ref f) ∧ FnOk P w K mg base CX0 k f fd ps sp ∧ PySem.W.keepIn K (.ref f) = true ∧ Binds K fd ps []
structure Def (K : Fg) (mg : Str → Option Value) (x : Str) (st : Stmt) (ps : List Str) : Prop where
  ex : ∃ (f : Addr) (fd : FuncData), mg x = some (.ref f) ∧ Fun K x x st f fd ∧ Binds K fd ps []
theorem Cal.mono {P : Program} {w : World} {K : Fg} {mg : Str → Option Value} {base : Heap} {j k : Nat} {x : Str} {ps : List Str} {sp : Sp} (c : Cal P w K mg base j x ps sp) (h : j ≤ k) : Cal P w K mg base k x ps sp := by
  obtain ⟨f, fd, a, b, c, d⟩ := c.ex
  exact ⟨f, fd, a, b.mono h, c, d⟩
theorem pe_cal {X : Cx} {j k : Nat} {x : Str} {ps : List Str} {sp : Sp} {e : Expr} {es : List Expr} {t : TA} {p pos : Pos} (c : Cal X.prog X.w X.K X.mg X.base k x ps sp) (hr : Room j X.A) (hk : k ≤ j) (hg : Gl X x) (ha : PA X (e :: es) t)
    (hd : (x == ("__debug__" : Str)) = false := by decide) (hs : starEach (e :: es) X.env = (false, eval e X.env) :: starEach es X.env := by rfl) (hpl : (backTo pos (starEach es X.env)).any (·.1) = false := by rfl) :
    PE X (.Call (.Name x p) (e :: es) [] pos) (tCall sp [] E0 t) := by
  obtain ⟨f, fd, a, b, c, d⟩ := c.ex
  exact pe_call b (hr.mono hk) hg a c d .nil pass0 ha hd hs hpl
section
variable {P : Program} {w : World} {K : Fg} {mg : Str → Option Value} {base : Heap} {α β : Type} [Sls α] [Py β]
theorem start_kn {H S : Hp} {vs : List V} {a : α} {N : List Str} (e : Same S H) (r : PyA.rep K S vs a) : Kn K H S S (L2.start N vs) H (fun _ => []) (Sls.sls a ++ List.replicate (N.length - PyA.n α) .no) := by
  obtain ⟨l, q⟩ := Sls.ok (H := H) r
  have hn := PyA.len r
  refine ⟨Same.refl _, e, Same.refl _, fun _ _ _ => rfl, (fun i p hp => nomatch hp), (fun i j p hp => nomatch hp), ?_, fun i s hi => ?_⟩
  · unfold L2.start
    rw [List.length_append, List.length_append, List.length_map, List.length_replicate, List.length_replicate, l, hn]
  · unfold L2.start
    by_cases c : i < (Sls.sls a).length
    · rw [List.getElem?_append_left c] at hi
      rw [List.getElem?_append_left (by rw [List.length_map, ← l]; exact c)]
      exact q i s hi
    · rw [List.getElem?_append_right (by omega)] at hi
      have : s = .no := by
        have := List.mem_of_getElem? hi
        exact List.eq_of_mem_replicate this
      subst this
      exact True.intro
/-- a def by its mirror f -/
theorem def_spF {x : Str} {st : Stmt} {N ps : List Str} {k : Nat} {f : α → β} {pre : α → Prop} (D : Def K mg x st ps) (S : FnScope N ps (defScope st)) (hn : PyA.n α = ps.length)
    (h : ∀ (fa : Addr) (cdv : Value) (A : Around) (outer : List Env) (s : Shared) (H : Hp) (E : XK), Room k (A.deeper (envOfC x (defScope st) s.heap.objs.size fa cdv)) →
      ∃ t, PSs (cxOf CX0 P w K mg base N x (defScope st) fa cdv A outer s H E).nox (defBody st) t ∧
        ∀ (a : α), pre a → ∀ (B S0 : Hp) (Q : VK), (∀ G' y, y = f a → RT K B S0 Q y G') → At K B S0 (t { nx := fun _ H' => Q .non H', rt := Q }) (Sls.sls a ++ List.replicate (N.length - PyA.n α) .no)) :
    Cal P w K mg base (k + 1) x ps (spF K f pre) := by
  obtain ⟨fa, fd, m, F, b⟩ := D.ex
  refine ⟨fa, fd, m, F.ok S (fun vs H Q E ⟨S, a, _, r, _⟩ => (PyA.len r).trans hn) fun cdv A outer s H vs Q E hr ⟨S', a, e, r, hp, q⟩ => ?_, F.kp, b⟩
  obtain ⟨t, h1, h2⟩ := h fa cdv A outer s H E hr
  refine ⟨t, h1, h2 a hp H S' Q (fun G' y ey S1 σ1 H1 F1 v k1 r1 => ?_) S' _ H _ (start_kn e r)⟩
  subst ey
  exact q v S1 H1 ⟨k1.s0, k1.sub, k1.keep, k1.clean⟩ r1
end
/-- a dict that was owned is settled -/
theorem Kn.relD {α : Type} [Py α] {K : Fg} {B S0 S : Hp} {σ : L2.St} {H : Hp} {F : Nat → List Addr} {G : List Sl} {x : Dct α} {i : Nat} (k : Kn K B S0 S σ H F G) (h : G[i]? = some (.ow x)) : ∃ S', Same S S' ∧ Kn K B S0 S' σ H (upF F i []) (G.set i (.im x)) := by
  obtain ⟨v, hv, p, vs, rfl, hp, h1, h2⟩ := k.ow h
  obtain ⟨hs, hb, _⟩ := k.off i p (by rw [hp]; exact List.mem_singleton.mpr rfl)
  have k1 : Kn K B S0 S σ H (upF F i []) (G.set i .no) := by
    refine ⟨k.s0, k.sub, k.keep, k.clean, fun j q hq => ?_, fun a b q ha hb' => ?_, by rw [List.length_set]; exact k.len, fun j s e => ?_⟩
    · by_cases e : j = i
      · rw [e, upF_self] at hq
        cases hq
      · rw [upF_ne e] at hq
        exact k.off j q hq
    · by_cases ea : a = i
      · rw [ea, upF_self] at ha
        cases ha
      · by_cases eb : b = i
        · rw [eb, upF_self] at hb'
          cases hb'
        · rw [upF_ne ea] at ha
          rw [upF_ne eb] at hb'
          exact k.dj a b q ha hb'
    · rcases set_get e with ⟨rfl, rfl⟩ | ⟨ne, e⟩
      · exact True.intro
      · rw [upF_ne ne]
        exact k.sl j s e
  have hf : ∀ j, p ∉ upF F i [] j := fun j hj => by
    by_cases e : j = i
    · rw [e, upF_self] at hj
      cases hj
    · rw [upF_ne e] at hj
      exact e (k.dj j i p hj (by rw [hp]; exact List.mem_singleton.mpr rfl))
  have k2 := k1.settle h1 hs hb hf
  refine ⟨upd S p (.dK vs), same_new hs, ?_⟩
  have hl : i < G.length := (List.getElem?_eq_some_iff.mp h).1
  have k3 := k2.set (i := i) (v := .ref p) (x := x) ⟨p, vs, rfl, upd_same, h2.mono (same_new hs)⟩ (by rw [List.getElem?_set_self hl]; rfl)
  have e1 : σ.set i (some (.ref p)) = σ := by
    apply List.ext_getElem?
    intro j
    by_cases e : i = j
    · subst e
      rw [List.getElem?_set_self (by rw [← k.len]; exact hl)]
      exact hv.symm
    · rw [List.getElem?_set_ne e]
  rw [e1, List.set_set] at k3
  exact k3
theorem at_relD {α : Type} [Py α] {K : Fg} {B S0 : Hp} {G : List Sl} {x : Dct α} {i : Nat} {P : L2.St → Hp → Prop} (h : G[i]? = some (.ow x)) (q : At K B S0 P (G.set i (.im x))) : At K B S0 P G := fun S σ H F k => by
  obtain ⟨S', _, k'⟩ := k.relD h
  exact q S' σ H _ k'
end GL

namespace GL
open PySem PySem.Spec PyProof.Rows L2
/-! ### mirrors of loops that may be left -/
inductive Fl (τ ρ : Type) where
  | nx (s : τ)
  | bk (s : τ)
  | rt (r : ρ)
def forL {α τ ρ : Type} (body : τ → α → Fl τ ρ) (k : τ → ρ) : List α → τ → ρ
  | [], s => k s
  | x :: xs, s => match body s x with
    | .nx s' => forL body k xs s'
    | .bk s' => k s'
    | .rt r => r
def whl {τ ρ : Type} (c : τ → Bool) (body : τ → Fl τ ρ) (k : τ → ρ) : Nat → τ → ρ
  | 0, s => k s
  | n + 1, s => if c s = true then (match body s with
    | .nx s' => whl c body k n s'
    | .bk s' => k s'
    | .rt r => r) else k s
section
variable {α τ ρ : Type} {body : τ → α → Fl τ ρ} {k : τ → ρ} {x : α} {xs : List α} {s s' : τ} {r : ρ} {R : ρ}
theorem forL_nx (h : R = forL body k (x :: xs) s) (e : body s x = .nx s') : R = forL body k xs s' := by
  rw [h, forL, e]
theorem forL_bk (h : R = forL body k (x :: xs) s) (e : body s x = .bk s') : R = k s' := by
  rw [h, forL, e]
theorem forL_rt (h : R = forL body k (x :: xs) s) (e : body s x = .rt r) : R = r := by
  rw [h, forL, e]
variable {c : τ → Bool} {bodyW : τ → Fl τ ρ} {n : Nat}
theorem whl_nx (h : R = whl c bodyW k (n + 1) s) (hc : c s = true) (e : bodyW s = .nx s') : R = whl c bodyW k n s' := by
  rw [h, whl, if_pos hc, e]
theorem whl_bk (h : R = whl c bodyW k (n + 1) s) (hc : c s = true) (e : bodyW s = .bk s') : R = k s' := by
  rw [h, whl, if_pos hc, e]
theorem whl_rt (h : R = whl c bodyW k (n + 1) s) (hc : c s = true) (e : bodyW s = .rt r) : R = r := by
  rw [h, whl, if_pos hc, e]
theorem whl_end (h : R = whl c bodyW k n s) (hc : c s = false) : R = k s := by
  cases n with
  | zero => exact h
  | succ n => rw [h, whl, if_neg (by rw [hc]; decide)]
end
section
variable {K : Fg} {B S0 S1 S S' : Hp} {σ : L2.St} {H H' : Hp} {F : Nat → List Addr} {G G' : List Sl}
/-! ### statements that name what they give -/
section
variable {α β γ : Type} [Py α] [Py β] [Py γ] {x : α} {y : β} {G1 G2 : List Sl} {te ta tb : TE} {t u w : TS} {E : Ends} {tt : TT} {b : Bool} {i j l : Nat} {P : L2.St → Hp → Prop}
theorem at_gen {x : α} (i : Nat) (h : G[i]? = some (.im x)) (k : ∀ y, y = x → At K B S0 P (G.set i (.im y))) : At K B S0 P G := by
  have := k x rfl
  have e : G.set i (.im x) = G := by
    apply List.ext_getElem?
    intro j
    by_cases q : i = j
    · subst q
      rw [List.getElem?_set_self (List.getElem?_eq_some_iff.mp h).1, h]
    · rw [List.getElem?_set_ne q]
  rw [e] at this
  exact this
theorem at_genO {δ : Type} [Own δ] {x : δ} (i : Nat) (h : G[i]? = some (.ow x)) (k : ∀ y, y = x → At K B S0 P (G.set i (.ow y))) : At K B S0 P G := by
  have := k x rfl
  have e : G.set i (.ow x) = G := by
    apply List.ext_getElem?
    intro j
    by_cases q : i = j
    · subst q
      rw [List.getElem?_set_self (List.getElem?_eq_some_iff.mp h).1, h]
    · rw [List.getElem?_set_ne q]
  rw [e] at this
  exact this
theorem qg_set (i : Nat) (h : EvX K te G x G1) (hi : G1[i]?.isSome = true) (k : ∀ y, y = x → At K B S0 (u E) (G1.set i (.im y))) : At K B S0 (tSeq (tAsg te (gName i)) u E) G := q_set h hi (k x rfl)
theorem qg_own {xs : List α} (i : Nat) (h : EvL K te G xs G1) (hi : G1[i]?.isSome = true) (k : ∀ y, y = xs → At K B S0 (u E) (G1.set i (.ow y))) : At K B S0 (tSeq (tAsg te (gName i)) u E) G := q_own h hi (k xs rfl)
theorem qg_pair {xy : α × β} (i j : Nat) (h : EvX K te G xy G1) (hi : G1[i]?.isSome = true) (hj : (G1.set i (.im xy.1))[j]?.isSome = true) (k : ∀ a b, a = xy.1 → b = xy.2 → At K B S0 (u E) ((G1.set i (.im a)).set j (.im b))) :
    At K B S0 (tSeq (tAsg te (gTup K 2 (gCons (gName i) (gCons (gName j) gNil)))) u E) G := q_asg h (tg_pair (tg_name hi) (tg_name hj)) (k _ _ rfl rfl)
theorem qg_t3 {xy : T3 α β γ} (i j l : Nat) (h : EvX K te G xy G1) (hi : G1[i]?.isSome = true) (hj : (G1.set i (.im xy.a))[j]?.isSome = true) (hl : ((G1.set i (.im xy.a)).set j (.im xy.b))[l]?.isSome = true)
    (k : ∀ a b c, a = xy.a → b = xy.b → c = xy.c → At K B S0 (u E) (((G1.set i (.im a)).set j (.im b)).set l (.im c))) :
    At K B S0 (tSeq (tAsg te (gTup K 3 (gCons (gName i) (gCons (gName j) (gCons (gName l) gNil))))) u E) G := q_asg h (tg_t3 (tg_name hi) (tg_name hj) (tg_name hl)) (k _ _ _ rfl rfl rfl)
theorem qg_app {xs xs' : List α} (i : Nat) (hl : G[i]? = some (.ow xs)) (h : EvX K te G x G1) (hl1 : G1[i]? = some (.ow xs')) (hz : xs'.length < sizeLine) (k : ∀ y, y = xs' ++ [x] → At K B S0 (u E) (G1.set i (.ow y))) :
    At K B S0 (tSeq (tDrop (tBM K "list" rAppend (tVar i) (tCons te tNil))) u E) G := q_app hl h hl1 hz (k _ rfl)
theorem qg_setL {xs : List α} {n : Int} (i : Nat) (h : EvX K te G x G1) (hi : EvX K tb G1 n G2) (hl1 : G1[i]? = some (.ow xs)) (hl : G2[i]? = some (.ow xs)) (hn : 0 ≤ n ∧ n < xs.length) (k : ∀ y, y = xs.set n.toNat x → At K B S0 (u E) (G2.set i (.ow y))) :
    At K B S0 (tSeq (tAsg te (gSub (tVar i) tb rSetL)) u E) G := q_setL h hi hl1 hl hn (k _ rfl)
theorem qg_dput {d d' : Dct α} {n : Int} (i : Nat) (h : EvX K te G x G1) (hk : EvX K tb G1 n G2) (hl1 : G1[i]? = some (.ow d)) (hl : G2[i]? = some (.ow d')) (hz : d'.l.length < sizeLine) (k : ∀ y, y = d'.put n x → At K B S0 (u E) (G2.set i (.ow y))) :
    At K B S0 (tSeq (sDPut (tVar i) tb te) u E) G := q_dput h hk hl1 hl hz (k _ rfl)
theorem qg_dpop {d : Dct α} {n : Int} (i : Nat) (hl : G[i]? = some (.ow d)) (hk : EvX K tb G n G) (k : ∀ y, y = d.del n → At K B S0 (u E) (G.set i (.ow y))) : At K B S0 (tSeq (tDrop (tDPop2 (tVar i) tb (tC .non))) u E) G := q_dpop hl hk (k _ rfl)
/-- if c: .. where it is known that c is false -/
theorem q_ifF (h : EvT K tt G b G1) (hb : b = false) (k : At K B S0 (u E) G1) : At K B S0 (tSeq (tIfS tt t tNext) u E) G := q_if h (fun e => by rw [hb] at e; cases e) fun _ => k
end
/-! ### loops that name their state -/
section
variable {α : Type} [Py α] {τ ρ : Type} {G1 : List Sl} {wi : TI} {g : TG} {tb u : TS} {tt : TT} {E : Ends} {xs : List α}
theorem qg_fold (γ : τ → List Sl) (step : τ → α → τ) (s0 : τ) (hi : ItG K wi G xs G1) (h0 : Le (γ s0) G1)
    (hs : ∀ pre x post s, pre ++ x :: post = xs → s = pre.foldl step s0 → ∀ S1, Reb B S0 S1 → ∃ G2 ts, TgG K g x (γ s) G2 ts ∧ At K B S1 (tb { E with nx := Mid K B S1 (· = γ (step s x)), ct := Mid K B S1 (· = γ (step s x)), bk := u E }) G2)
    (hd : ∀ s, s = xs.foldl step s0 → At K B S0 (u E) (γ s)) : At K B S0 (tSeq (tFor wi g tb) u E) G :=
  q_fold γ step s0 hi h0 (fun pre x post ex S1 rb => hs pre x post _ ex rfl S1 rb) (hd _ rfl)
/-- a loop whose turns keep a word, nothing else is known -/
theorem qg_inv (γ : τ → List Sl) (I : List α → τ → Prop) (s0 : τ) (hi : ItG K wi G xs G1) (h0 : Le (γ s0) G1) (hI : I [] s0)
    (hs : ∀ pre x post s, pre ++ x :: post = xs → I pre s → ∀ S1, Reb B S0 S1 → ∃ G2 ts, TgG K g x (γ s) G2 ts ∧ At K B S1 (tb { E with nx := Mid K B S1 (fun G' => ∃ s', G' = γ s' ∧ I (pre ++ [x]) s'), ct := Mid K B S1 (fun G' => ∃ s', G' = γ s' ∧ I (pre ++ [x]) s'), bk := u E }) G2)
    (hd : ∀ s, I xs s → At K B S0 (u E) (γ s)) : At K B S0 (tSeq (tFor wi g tb) u E) G := by
  have hi' : ItG K wi G xs (γ s0) := fun B S0 S σ H F k R q => hi B S0 S σ H F k R fun J S' H' e k' w => q J S' H' e (k'.le h0) w
  refine q_for (fun pre post Gi => ∃ s, Gi = γ s ∧ I pre s) hi' ⟨s0, rfl, hI⟩ (fun pre x post Gi ex ⟨s, e, p⟩ S1 rb => ?_) fun Gi ⟨s, e, p⟩ => by rw [e]; exact hd s p
  subst e
  exact hs pre x post s ex p S1 rb
theorem qg_forL (γ : τ → List Sl) (body : τ → α → Fl τ ρ) (k : τ → ρ) (s0 : τ) (R : ρ) (I : List α → τ → Prop) (hi : ItG K wi G xs G1) (h0 : Le (γ s0) G1) (hR : R = forL body k xs s0) (hI : I [] s0)
    (hs : ∀ pre x post s, pre ++ x :: post = xs → I pre s → R = forL body k (x :: post) s → ∀ S1, Reb B S0 S1 → ∃ G2 ts, TgG K g x (γ s) G2 ts ∧
      At K B S1 (tb { E with nx := Mid K B S1 (fun G' => ∃ s', G' = γ s' ∧ R = forL body k post s' ∧ I (pre ++ [x]) s'), ct := Mid K B S1 (fun G' => ∃ s', G' = γ s' ∧ R = forL body k post s' ∧ I (pre ++ [x]) s'), bk := u E }) G2)
    (hd : ∀ s, R = k s → I xs s → At K B S0 (u E) (γ s)) : At K B S0 (tSeq (tFor wi g tb) u E) G := by
  have hi' : ItG K wi G xs (γ s0) := fun B S0 S σ H F k R q => hi B S0 S σ H F k R fun J S' H' e k' w => q J S' H' e (k'.le h0) w
  refine q_for (fun pre post Gi => ∃ s, Gi = γ s ∧ R = forL body k post s ∧ I pre s) hi' ⟨s0, rfl, hR, hI⟩ (fun pre x post Gi ex ⟨s, e, p, q⟩ S1 rb => ?_) fun Gi ⟨s, e, p, q⟩ => by rw [e]; exact hd s p q
  subst e
  exact hs pre x post s ex q p S1 rb
/-- what a turn of a while is to reach: n turns are left -/
def WhI (γ : τ → List Sl) (c : τ → Bool) (body : τ → Fl τ ρ) (k : τ → ρ) (R : ρ) (I : τ → Prop) (μ : τ → Nat) (m : Nat) (Gi : List Sl) : Prop := ∃ s, Gi = γ s ∧ R = whl c body k m s ∧ I s ∧ μ s ≤ m
def WhN (γ : τ → List Sl) (c : τ → Bool) (body : τ → Fl τ ρ) (k : τ → ρ) (R : ρ) (I : τ → Prop) (μ : τ → Nat) (n : Nat) (Gi : List Sl) : Prop := ∃ m', m' < n + 1 ∧ WhI γ c body k R I μ m' Gi
theorem whN {γ : τ → List Sl} {c : τ → Bool} {body : τ → Fl τ ρ} {k : τ → ρ} {R : ρ} {I : τ → Prop} {μ : τ → Nat} {n : Nat} {Gi : List Sl} (s s' : τ) (e : Gi = γ s') (h : R = whl c body k (n + 1) s) (hc : c s = true) (hb : body s = .nx s') (hI : I s') (hm : μ s ≤ n + 1) (hl : μ s' < μ s) : WhN γ c body k R I μ n Gi :=
  ⟨n, Nat.lt_succ_self n, s', e, whl_nx h hc hb, hI, by omega⟩
theorem qg_whl (γ : τ → List Sl) (c : τ → Bool) (body : τ → Fl τ ρ) (k : τ → ρ) (s0 : τ) (n : Nat) (R : ρ) (I : τ → Prop) (μ : τ → Nat) (h0 : Le (γ s0) G) (hR : R = whl c body k n s0) (hI : I s0) (hn : μ s0 ≤ n) (hz : ∀ s, I s → μ s = 0 → c s = false)
    (hc : ∀ s, I s → EvT K tt (γ s) (c s) (γ s))
    (hs : ∀ n s, I s → μ s ≤ n + 1 → c s = true → R = whl c body k (n + 1) s → ∀ S1, Reb B S0 S1 →
      At K B S1 (tb { E with nx := Mid K B S1 (WhN γ c body k R I μ n), ct := Mid K B S1 (WhN γ c body k R I μ n), bk := u E }) (γ s))
    (hd : ∀ s, R = k s → I s → c s = false → ∀ S1, Reb B S0 S1 → At K B S1 (u E) (γ s)) : At K B S0 (tSeq (tWhile tt tb) u E) G := by
  refine at_le h0 (q_while (WhI γ c body k R I μ) n ⟨s0, rfl, hR, hI, hn⟩ fun m Gi ⟨s, e, p, q, r⟩ S1 rb => ?_)
  subst e
  refine ⟨c s, hc s q, fun hb => ?_, fun hb => hd s (whl_end p hb) q hb S1 rb⟩
  cases m with
  | zero =>
    rw [hz s q (by omega)] at hb
    cases hb
  | succ m => exact hs m s q r hb p S1 rb
end

/-! ### a def that turns its first argument -/
/-- vs = the owned thing, then packed arguments; f gives the value and what the owned thing is behind it -/
def spM {ω α β : Type} [Own ω] [PyA α] [Py β] (K : Fg) (f : ω → α → β × ω) (pre : ω → α → Prop) : Sp := fun vs H Q _ => ∃ (S : Hp) (v0 : V) (ws : List V) (ps : List Addr) (z : ω) (a : α), vs = v0 :: ws ∧ Same S H ∧ Own.own K S H v0 ps z ∧
  (∀ p ∈ ps, S p = none ∧ ∃ o, H p = some o) ∧ PyA.rep K S ws a ∧ pre z a ∧ ∀ v S' H', Same S S' → Same S' H' → (∀ p o, p ∉ ps → H p = some o → H' p = some o) → (∀ p o, H p = some o → S' p = S p) → (∀ p ∈ ps, ∃ o, H' p = some o) →
    Own.own K S' H' v0 ps (f z a).2 → Py.rep K S' v (f z a).1 → Q v H'
section
variable {ω α β : Type} [Own ω] [PyA α] [Py β] {G1 : List Sl} {f : ω → α → β × ω} {pre : ω → α → Prop} {z z' : ω} {a : α} {t : TA} {E : XK} {i : Nat}
theorem ev_callM (hi : G[i]? = some (.ow z)) (ha : EvA K t G a G1) (hi1 : G1[i]? = some (.ow z')) (hp : pre z' a) : EvX K (tCall (spM K f pre) [] E (tCons (tVar i) t)) G (f z' a).1 (G1.set i (.ow (f z' a).2)) := fun B S0 S σ H F k Q q => by
  obtain ⟨v0, h1, h2⟩ := k.ow hi
  refine ⟨v0, h1, ha B S0 S σ H F k _ fun vs S1 H1 e1 k1 r1 => ?_⟩
  show spM K f pre (v0 :: vs ++ []) H1 Q E
  rw [List.append_nil]
  obtain ⟨v1, h3, h4⟩ := k1.ow hi1
  rw [h1] at h3
  cases h3
  refine ⟨S1, v0, vs, F i, z', a, rfl, k1.sub, h4, fun p hp => ⟨(k1.off i p hp).1, (k1.off i p hp).2.2⟩, r1, hp, fun v S2 H2 s1 s2 hk hc hl ho r2 => q v S2 H2 (e1.trans s1) ?_ r2⟩
  have hH : ∀ p o, p ∉ F i → H1 p = some o → H2 p = some o := hk
  refine ⟨k1.s0.trans s1, s2, fun p o e => ?_, fun p o e => (hc p o (k1.keep p o e)).trans (k1.clean p o e), fun j p hp => ?_, k1.dj, by rw [List.length_set]; exact k1.len, fun j s e => ?_⟩
  · exact hH p o (fun m => by rw [(k1.off i p m).2.1] at e; cases e) (k1.keep p o e)
  · obtain ⟨a1, a2, o, a3⟩ := k1.off j p hp
    refine ⟨(hc p o a3).trans a1, a2, ?_⟩
    by_cases m : p ∈ F i
    · exact hl p m
    · exact ⟨o, hH p o m a3⟩
  · rcases set_get e with ⟨rfl, rfl⟩ | ⟨ne, e⟩
    · exact ⟨v0, h1, ho⟩
    · have w := k1.sl j s e
      cases s with
      | no => exact True.intro
      | im y =>
        obtain ⟨u, b1, b2⟩ := w
        exact ⟨u, b1, Py.mono s1 b2⟩
      | ow y =>
        obtain ⟨u, b1, b2⟩ := w
        refine ⟨u, b1, Own.mono s1 (fun p hp => ?_) b2⟩
        obtain ⟨_, _, o, a3⟩ := k1.off j p hp
        rw [a3]
        exact hH p o (fun m => ne (k1.dj j i p hp m)) a3
end
section
variable {P : Program} {w : World} {mg : Str → Option Value} {base : Heap} {ω α β : Type} [Own ω] [Anch ω] [Sls α] [Py β]
theorem start_knM {v0 : V} {ps : List Addr} {z : ω} {vs : List V} {a : α} {N : List Str} (e : Same S H) (ho : Own.own K S H v0 ps z) (hps : ∀ p ∈ ps, S p = none ∧ ∃ o, H p = some o) (r : PyA.rep K S vs a) :
    Kn K (fun p => if p ∈ ps then none else H p) S S (L2.start N (v0 :: vs)) H (fun i => if i = 0 then ps else []) (.ow z :: Sls.sls a ++ List.replicate (N.length - (PyA.n α + 1)) .no) := by
  obtain ⟨l, q⟩ := Sls.ok (H := H) r
  have hn := PyA.len r
  refine ⟨Same.refl _, e, fun p o hp => ?_, fun _ _ _ => rfl, fun i p hp => ?_, fun i j p hp hp' => ?_, ?_, fun i s hi => ?_⟩
  · by_cases m : p ∈ ps
    · rw [if_pos m] at hp
      cases hp
    · rw [if_neg m] at hp
      exact hp
  · by_cases c : i = 0
    · rw [if_pos c] at hp
      exact ⟨(hps p hp).1, if_pos hp, (hps p hp).2⟩
    · rw [if_neg c] at hp
      cases hp
  · by_cases c : i = 0
    · by_cases c' : j = 0
      · rw [c, c']
      · rw [if_neg c'] at hp'
        cases hp'
    · rw [if_neg c] at hp
      cases hp
  · unfold L2.start
    rw [List.length_append, List.length_append, List.length_map, List.length_replicate, List.length_replicate, List.length_cons, List.length_cons, l, hn]
  · unfold L2.start
    cases i with
    | zero =>
      simp only [List.cons_append, List.getElem?_cons_zero, Option.some.injEq] at hi
      subst hi
      exact ⟨v0, rfl, ho⟩
    | succ i =>
      simp only [List.cons_append, List.getElem?_cons_succ, List.map_cons] at hi ⊢
      by_cases c : i < (Sls.sls a).length
      · rw [List.getElem?_append_left c] at hi
        rw [List.getElem?_append_left (by rw [List.length_map, ← l]; exact c)]
        have := q i s hi
        rw [if_neg (Nat.succ_ne_zero i)]
        exact this
      · rw [List.getElem?_append_right (by omega)] at hi
        have : s = .no := by
          have := List.mem_of_getElem? hi
          exact List.eq_of_mem_replicate this
        subst this
        exact True.intro
theorem def_spM {x : Str} {st : Stmt} {N ps : List Str} {k : Nat} {f : ω → α → β × ω} {pre : ω → α → Prop} (D : Def K mg x st ps) (S : FnScope N ps (defScope st)) (hn : PyA.n α + 1 = ps.length) (hA : ∀ z a, pre z a → Anch.fp (f z a).2 = Anch.fp z)
    (h : ∀ (fa : Addr) (cdv : Value) (A : Around) (outer : List Env) (s : Shared) (H : Hp) (E : XK), Room k (A.deeper (envOfC x (defScope st) s.heap.objs.size fa cdv)) →
      ∃ t, PSs (cxOf CX0 P w K mg base N x (defScope st) fa cdv A outer s H E).nox (defBody st) t ∧
        ∀ (z : ω) (a : α), pre z a → ∀ (B S0 : Hp) (Q : VK), (∀ (G' : List Sl) y z', G'[0]? = some (.ow z') → (y, z') = f z a → RT K B S0 Q y G') → At K B S0 (t { nx := fun _ H' => Q .non H', rt := Q }) (.ow z :: Sls.sls a ++ List.replicate (N.length - (PyA.n α + 1)) .no)) :
    Cal P w K mg base (k + 1) x ps (spM K f pre) := by
  obtain ⟨fa, fd, m, Fu, b⟩ := D.ex
  refine ⟨fa, fd, m, Fu.ok S (fun vs H Q E ⟨S, v0, ws, qs, z, a, e, _, _, _, r, _⟩ => by rw [e, List.length_cons, PyA.len r]; exact hn) fun cdv A outer s H vs Q E hr ⟨S', v0, ws, qs, z, a, e, es, ho, hqs, r, hp, q⟩ => ?_, Fu.kp, b⟩
  subst e
  obtain ⟨t, h1, h2⟩ := h fa cdv A outer s H E hr
  refine ⟨t, h1, ?_⟩
  have kn := start_knM (N := N) es ho hqs r
  refine h2 z a hp _ S' Q (fun G' y z' hz ey S1 σ1 H1 F1 v k1 r1 => ?_) S' _ H _ kn
  obtain ⟨v1, _, o1⟩ := k1.ow hz
  have e1 : z' = (f z a).2 := by rw [← ey]
  have e2 : y = (f z a).1 := by rw [← ey]
  have ef : (v1, F1 0) = (v0, qs) := (Anch.at_ o1).trans (by rw [e1, hA z a hp]; exact (Anch.at_ ho).symm)
  have ev : v1 = v0 := congrArg Prod.fst ef
  have eF : F1 0 = qs := congrArg Prod.snd ef
  rw [ev, eF] at o1
  subst e1 e2
  refine q v S1 H1 k1.s0 k1.sub (fun p o m e => k1.keep p o (by rw [if_neg m]; exact e)) (fun p o e => ?_) (fun p m => ?_) o1 r1
  · by_cases m : p ∈ qs
    · rw [(k1.off 0 p (by rw [eF]; exact m)).1, (hqs p m).1]
    · exact k1.clean p o (by rw [if_neg m]; exact e)
  · exact (k1.off 0 p (by rw [eF]; exact m)).2.2
end
end
end GL

namespace GL
open PySem PySem.Spec PyProof.Rows L2
section
variable {K : Fg} {B S0 S1 S S' : Hp} {σ : L2.St} {H H' : Hp} {F : Nat → List Addr} {G G' G1 G2 G3 : List Sl} {ta tb tc te : TE} {i j : Nat} {u : TS} {E : Ends}
section
variable {α β γ : Type} [Py α] [Py β] [Py γ]
/-! ### lists made of lists -/
theorem mk_list {p : Addr} {vs : List V} {xs : List α} {Q : VK} (k : Kn K B S0 S σ H F G) (hp : H p = none) (r : RepL K S vs xs)
    (q : ∀ p vs S' H', Same S S' → Kn K B S0 S' σ H' F G → S' p = none → B p = none → (∀ j, p ∉ F j) → H' p = some (.lst vs) → RepL K S' vs xs → Q (.ref p) H') : Q (.ref p) (upd H p (.lst vs)) := by
  obtain ⟨a, b, c⟩ := k.free hp
  exact q p vs S _ (Same.refl _) (k.raw hp) a b c upd_same r
theorem RepL.rg {K : Fg} {S : Hp} (a b : Int) : RepL K S (rgV a b) (rng a b) := by
  unfold rgV rng
  generalize (List.range (b - a).toNat) = l
  induction l with
  | nil => exact True.intro
  | cons x l ih => exact ⟨rfl, ih⟩
theorem el_rng1 {n : Int} (h : EvX K ta G n G1) (hn : RgOk 0 n) : EvL K (tLstRg (tRg1 ta)) G (rng 0 n) G1 := fun B S0 S σ H F k Q q =>
  h B S0 S σ H F k _ fun v S1 H1 e1 k1 r1 => ⟨n, r1, hn, fun p hp => mk_list k1 hp (RepL.rg 0 n) fun p vs S2 H2 e2 k2 a b c d r => q p vs S2 H2 (e1.trans e2) k2 a b c d r⟩
theorem el_rng2 {a n : Int} (ha : EvX K ta G a G1) (h : EvX K tb G1 n G2) (hn : RgOk a n) : EvL K (tLstRg (tRg2 ta tb)) G (rng a n) G2 := fun B S0 S σ H F k Q q =>
  ha B S0 S σ H F k _ fun v S1 H1 e1 k1 r1 => h B S0 S1 σ H1 F k1 _ fun w S2 H2 e2 k2 r2 => ⟨a, n, r1, r2, hn, fun p hp => mk_list k2 hp (RepL.rg a n) fun p vs S3 H3 e3 k3 a b c d r => q p vs S3 H3 ((e1.trans e2).trans e3) k3 a b c d r⟩
theorem ev_tprng1 {n : Int} (h : EvX K ta G n G1) (hn : RgOk 0 n) : EvX K (tTupRg (tRg1 ta)) G (Tp.mk (rng 0 n)) G1 := fun B S0 S σ H F k Q q =>
  h B S0 S σ H F k _ fun v S1 H1 e1 k1 r1 => ⟨n, r1, hn, fun p hp => q _ _ _ (e1.trans (same_new (k1.free hp).1)) (k1.new hp) ⟨p, _, rfl, SqT.of upd_same, RepL.rg 0 n⟩⟩
def rListS (K : Fg) : List V → Hp → VK → Prop := fun xs H Q => ∃ p ys, xs = [.ref p] ∧ (SqL K H p ys ∨ SqT K H p ys) ∧ ∀ l, H l = none → Q (.ref l) (upd H l (.lst ys))
def rTupS (K : Fg) : List V → Hp → VK → Prop := fun xs H Q => ∃ p ys, xs = [.ref p] ∧ ((SqL K H p ys ∧ ∀ l, H l = none → Q (.ref l) (upd H l (.tup ys))) ∨ (SqT K H p ys ∧ Q (.ref p) H))
theorem call_listG {X : Cx} : CallR X (.type "list") (rListS X.K) := call_list_of
theorem call_tupG {X : Cx} : CallR X (.type "tuple") (rTupS X.K) := call_tuple_of
theorem el_list {xs : List α} (h : EvC K ta G xs G1) : EvL K (tCB (rListS K) (tCons ta tNil)) G xs G1 := fun B S0 S σ H F k Q q =>
  h B S0 S σ H F k _ fun v S1 H1 e1 k1 r1 => by
    obtain ⟨p, vs, rfl, hp, hr⟩ := r1.at k1
    exact ⟨p, vs, rfl, .inl (SqL.of hp), fun l hl => mk_list k1 hl hr fun p vs S2 H2 e2 k2 a b c d r => q p vs S2 H2 (e1.trans e2) k2 a b c d r⟩
theorem el_listT {xs : Tp α} (h : EvX K ta G xs G1) : EvL K (tCB (rListS K) (tCons ta tNil)) G xs.l G1 := fun B S0 S σ H F k Q q =>
  h B S0 S σ H F k _ fun v S1 H1 e1 k1 r1 => by
    obtain ⟨p, vs, rfl, hp, hr⟩ := r1
    exact ⟨p, vs, rfl, .inr (seqT k1.sub hp), fun l hl => mk_list k1 hl hr fun p vs S2 H2 e2 k2 a b c d r => q p vs S2 H2 (e1.trans e2) k2 a b c d r⟩
theorem ev_tup {xs : List α} (h : EvC K ta G xs G1) : EvX K (tCB (rTupS K) (tCons ta tNil)) G (Tp.mk xs) G1 := fun B S0 S σ H F k Q q =>
  h B S0 S σ H F k _ fun v S1 H1 e1 k1 r1 => by
    obtain ⟨p, vs, rfl, hp, hr⟩ := r1.at k1
    exact ⟨p, vs, rfl, .inl ⟨SqL.of hp, fun l hl => q _ _ _ (e1.trans (same_new (k1.free hl).1)) (k1.new hl) ⟨l, vs, rfl, SqT.of upd_same, hr.mono (same_new (k1.free hl).1)⟩⟩⟩
theorem el_cat {xs ys : List α} (ha : EvC K ta G xs G) (hb : EvC K tb G ys G) (hz : xs.length + ys.length ≤ sizeLine) : EvL K (tOp rCat ta tb) G (xs ++ ys) G := fun B S0 S σ H F k Q q =>
  ha B S0 S σ H F k _ fun v S1 H1 e1 k1 r1 => hb B S0 S1 σ H1 F k1 _ fun w S2 H2 e2 k2 r2 => by
    obtain ⟨p, vs, rfl, hp, hr⟩ := (r1.mono e2).at k2
    obtain ⟨p', vs', rfl, hp', hr'⟩ := r2.at k2
    exact ⟨p, p', vs, vs', rfl, rfl, hp, hp', by rw [hr.len, hr'.len]; exact hz, fun l hl => mk_list k2 hl (hr.app hr') fun p vs S3 H3 e3 k3 a b c d r => q p vs S3 H3 ((e1.trans e2).trans e3) k3 a b c d r⟩
theorem el_rep {xs : List α} {n : Int} (ha : EvX K ta G xs G1) (hb : EvX K tb G1 n G2) (hn : n < 9223372036854775808 ∧ -9223372036854775808 ≤ n) (hz : xs.length * n.toNat ≤ sizeLine) : EvL K (tOp rRep ta tb) G (List.replicate n.toNat xs).flatten G2 := fun B S0 S σ H F k Q q =>
  ha B S0 S σ H F k _ fun v S1 H1 e1 k1 r1 => hb B S0 S1 σ H1 F k1 _ fun w S2 H2 e2 k2 r2 => by
    obtain ⟨p, vs, rfl, hp, hr⟩ := Py.mono e2 r1
    exact ⟨p, n, vs, rfl, r2, k2.sub _ _ hp, hn.2, hn.1, by rw [hr.len]; exact hz, fun l hl => mk_list k2 hl (hr.rep n.toNat) fun p vs S3 H3 e3 k3 a b c d r => q p vs S3 H3 ((e1.trans e2).trans e3) k3 a b c d r⟩
/-! slices of lists -/
def cutL {δ : Type} (xs : List δ) (lo hi : Option Int) : List δ := (xs.drop (HT.sIx xs.length 0 lo)).take (HT.sIx xs.length xs.length hi - HT.sIx xs.length 0 lo)
def EvO (K : Fg) (t : TO) (G : List Sl) (o : Option Int) : Prop := ∀ B S0 S σ H F, Kn K B S0 S σ H F G → ∀ Q : Option Int → Hp → Prop, (∀ S' H', Same S S' → Kn K B S0 S' σ H' F G → Q o H') → t σ H Q
theorem eo_none : EvO K tNoPart G none := fun B S0 S σ H F k Q q => q S H (Same.refl _) k
theorem eo_some {n : Int} (h : EvX K ta G n G) : EvO K (tPart ta) G (some n) := fun B S0 S σ H F k Q q => h B S0 S σ H F k _ fun v S1 H1 e1 k1 r1 => ⟨n, r1, q S1 H1 e1 k1⟩
theorem RepL.cut {vs : List V} {xs : List α} (h : RepL K S vs xs) (lo hi : Option Int) : RepL K S (cutV vs lo hi) (cutL xs lo hi) := by
  unfold cutV cutL
  rw [h.len]
  exact (h.drop _).take _
theorem el_slice {xs : List α} {tl th : TO} {lo hi : Option Int} (h : EvC K ta G xs G) (hl : EvO K tl G lo) (hh : EvO K th G hi) : EvL K (tSl (rSlL K) ta tl th) G (cutL xs lo hi) G := fun B S0 S σ H F k Q q =>
  h B S0 S σ H F k _ fun v S1 H1 e1 k1 r1 => hl B S0 S1 σ H1 F k1 _ fun S2 H2 e2 k2 => hh B S0 S2 σ H2 F k2 _ fun S3 H3 e3 k3 => by
    obtain ⟨p, vs, rfl, hp, hr⟩ := (r1.mono (e2.trans e3)).at k3
    exact ⟨p, vs, rfl, SqL.of hp, fun l hl => mk_list k3 hl (hr.cut lo hi) fun p vs S4 H4 e4 k4 a b c d r => q p vs S4 H4 (((e1.trans e2).trans e3).trans e4) k4 a b c d r⟩
/-! in -/
theorem inV_ints (x : Int) : ∀ xs : List Int, inV (.int x) (xs.map V.int) = decide (x ∈ xs)
  | [] => by simp [inV]
  | y :: xs => by
    have ih := inV_ints x xs
    unfold inV at ih ⊢
    rw [List.map_cons, List.any_cons, ih]
    by_cases e : y = x
    · subst e
      simp [eqV]
    · have : ¬ x = y := fun z => e z.symm
      simp [eqV, e, this]
theorem flat_ints : ∀ xs : List Int, (xs.map V.int).all flatV = true
  | [] => rfl
  | _ :: xs => by rw [List.map_cons, List.all_cons, flat_ints xs]; rfl
theorem ev_inL {x : Int} {xs : List Int} (ha : EvX K ta G x G) (hb : EvC K tb G xs G) : EvX K (tOp (rIn K false) ta tb) G (decide (x ∈ xs)) G := fun B S0 S σ H F k Q q =>
  ha B S0 S σ H F k _ fun v S1 H1 e1 k1 r1 => hb B S0 S1 σ H1 F k1 _ fun w S2 H2 e2 k2 r2 => by
    obtain ⟨p, vs, rfl, hp, hr⟩ := r2.at k2
    rw [hr.ints] at hp
    rw [show v = .int x from r1]
    exact ⟨p, _, rfl, .inl (SqL.of hp), rfl, flat_ints _, q _ S2 H2 (e1.trans e2) k2 (by rw [inV_ints]; rfl)⟩
theorem ev_ninL {x : Int} {xs : List Int} (ha : EvX K ta G x G) (hb : EvC K tb G xs G) : EvX K (tOp (rIn K true) ta tb) G (!decide (x ∈ xs)) G := fun B S0 S σ H F k Q q =>
  ha B S0 S σ H F k _ fun v S1 H1 e1 k1 r1 => hb B S0 S1 σ H1 F k1 _ fun w S2 H2 e2 k2 r2 => by
    obtain ⟨p, vs, rfl, hp, hr⟩ := r2.at k2
    rw [hr.ints] at hp
    rw [show v = .int x from r1]
    exact ⟨p, _, rfl, .inl (SqL.of hp), rfl, flat_ints _, q _ S2 H2 (e1.trans e2) k2 (by rw [inV_ints]; rfl)⟩
theorem ev_inT {x : Int} {xs : Tp Int} (ha : EvX K ta G x G) (hb : EvX K tb G xs G) : EvX K (tOp (rIn K false) ta tb) G (decide (x ∈ xs.l)) G := fun B S0 S σ H F k Q q =>
  ha B S0 S σ H F k _ fun v S1 H1 e1 k1 r1 => hb B S0 S1 σ H1 F k1 _ fun w S2 H2 e2 k2 r2 => by
    obtain ⟨p, vs, rfl, hp, hr⟩ := r2
    rw [hr.ints] at hp
    rw [show v = .int x from r1]
    exact ⟨p, _, rfl, .inr (seqT k2.sub hp), rfl, flat_ints _, q _ S2 H2 (e1.trans e2) k2 (by rw [inV_ints]; rfl)⟩
/-! all, any -/
theorem ev_all {bs : List Bool} (h : EvC K ta G bs G1) : EvX K (tCB (rAll K) (tCons ta tNil)) G (bs.all id) G1 := fun B S0 S σ H F k Q q =>
  h B S0 S σ H F k _ fun v S1 H1 e1 k1 r1 => by
    obtain ⟨p, vs, rfl, hp, hr⟩ := r1.at k1
    rw [hr.bls] at hp
    exact ⟨p, bs, rfl, SqL.of hp, q _ S1 H1 e1 k1 rfl⟩
theorem ev_any {bs : List Bool} (h : EvC K ta G bs G1) : EvX K (tCB (rAny K) (tCons ta tNil)) G (bs.any id) G1 := fun B S0 S σ H F k Q q =>
  h B S0 S σ H F k _ fun v S1 H1 e1 k1 r1 => by
    obtain ⟨p, vs, rfl, hp, hr⟩ := r1.at k1
    rw [hr.bls] at hp
    exact ⟨p, bs, rfl, SqL.of hp, q _ S1 H1 e1 k1 rfl⟩
/-! sorted -/
def srt (xs : List Int) : List Int := xs.mergeSort fun a b => decide (a ≤ b)
theorem srt_perm (xs : List Int) : (srt xs).Perm xs := List.mergeSort_perm xs _
theorem srt_sorted (xs : List Int) : (srt xs).Pairwise (· ≤ ·) := by
  have h := List.pairwise_mergeSort (le := fun a b : Int => decide (a ≤ b)) (fun a b c h1 h2 => by simp only [decide_eq_true_eq] at *; omega) (fun a b => by simp only [Bool.or_eq_true, decide_eq_true_eq]; omega) xs
  exact h.imp fun q => of_decide_eq_true q
theorem srt_eq {xs ys : List Int} (p : ys.Perm xs) (s : ys.Pairwise (· ≤ ·)) : ys = srt xs :=
  (p.trans (srt_perm xs).symm).eq_of_pairwise (fun a b _ _ h1 h2 => Int.le_antisymm h1 h2) s (srt_sorted xs)
theorem el_sortedI {xs : List Int} (h : EvC K ta G xs G1) : EvL K (tCB (rSortedI K) (tCons ta tNil)) G (srt xs) G1 := fun B S0 S σ H F k Q q =>
  h B S0 S σ H F k _ fun v S1 H1 e1 k1 r1 => by
    obtain ⟨p, vs, rfl, hp, hr⟩ := r1.at k1
    rw [hr.ints] at hp
    refine ⟨p, xs, rfl, SqL.of hp, fun ns l pm so hl => ?_⟩
    rw [srt_eq pm so]
    exact mk_list k1 hl (RepL.of_ints _) fun p vs S2 H2 e2 k2 a b c d r => q p vs S2 H2 (e1.trans e2) k2 a b c d r
def rSortDI : List V → Hp → VK → Prop := fun xs H Q => ∃ (a : Addr) (kvs : List (Key × V)) (ks : List Int), xs = [.ref a] ∧ Rd H a (.dK kvs) ∧ kvs.map (·.1) = ks.map Sum.inl ∧ ks.length < 64 ∧
    ∀ (ys : List Int) (p : Addr), ys.Perm ks → ys.Pairwise (· ≤ ·) → H p = none → Q (.ref p) (upd H p (.lst (ys.map V.int)))
theorem call_sortDI {X : Cx} (hc : X.calm = true) : CallR X (.builtin "sorted") rSortDI := call_sortedDI hc
theorem RepD.keys : ∀ {kvs : List (Key × V)} {xs : List (Int × α)}, RepD K S kvs xs → kvs.map (·.1) = (xs.map (·.1)).map Sum.inl
  | [], [], _ => rfl
  | _ :: _, _ :: _, h => by rw [List.map_cons, List.map_cons, List.map_cons, RepD.keys h.2.2, h.1]
  | [], _ :: _, h => h.elim
  | _ :: _, [], h => h.elim
theorem el_sortedD {d : Dct α} (h : EvD K ta G d G1) (hz : d.l.length < 64) : EvL K (tCB rSortDI (tCons ta tNil)) G (srt (d.l.map (·.1))) G1 := fun B S0 S σ H F k Q q =>
  h B S0 S σ H F k _ fun v S1 H1 e1 k1 r1 => by
    obtain ⟨p, kvs, rfl, hp, hr⟩ := r1.at k1
    refine ⟨p, kvs, d.l.map (·.1), rfl, .inl hp, hr.keys, by rw [List.length_map]; exact hz, fun ns l pm so hl => ?_⟩
    rw [srt_eq pm so]
    exact mk_list k1 hl (RepL.of_ints _) fun p vs S2 H2 e2 k2 a b c d r => q p vs S2 H2 (e1.trans e2) k2 a b c d r
theorem ev_lenD {d : Dct α} (h : EvD K ta G d G1) : EvX K (tCB (fun xs H Q => ∃ a kvs, xs = [V.ref a] ∧ H a = some (.dK kvs) ∧ Q (.int kvs.length) H) (tCons ta tNil)) G (d.l.length : Int) G1 := fun B S0 S σ H F k Q q =>
  h B S0 S σ H F k _ fun v S1 H1 e1 k1 r1 => by
    obtain ⟨p, kvs, rfl, hp, hr⟩ := r1.at k1
    exact ⟨p, kvs, rfl, hp, q _ S1 H1 e1 k1 (by rw [hr.len]; rfl)⟩
/-! pop of a list's place as a value -/
theorem ev_pop0 [Inhabited α] {xs : List α} (hl : G[i]? = some (.ow xs)) (hx : xs ≠ []) : EvX K (tBM K "list" rPopAt (tVar i) (tCons (tC (.int 0)) tNil)) G (ix xs 0) (G.set i (.ow (xs.drop 1))) := fun B S0 S σ H F k Q q => by
  obtain ⟨p, vs, h1, h2, h3, h4⟩ := own_list k hl
  cases xs with
  | nil => exact absurd rfl hx
  | cons x xs =>
    cases vs with
    | nil => exact h4.elim
    | cons v vs =>
      refine ⟨.ref p, h1, .inl ⟨rfl, _, SqL.of h3⟩, p, v :: vs, 0, 0, v, rfl, rfl, h3, by decide, by decide, ?_, rfl, q v S _ (Same.refl _) (own_listUpd k h1 h2 (vs := (v :: vs).eraseIdx 0) h4.2) h4.1⟩
      unfold seqIndex?
      simp
end

/-! ### == of data -/
class Dt (α : Type) [Py α] where
  dat : α → PyData
  dp : ∀ {K : Fg} {S H : Hp} {v : V} {x : α}, Same S H → Py.rep K S v x → Dp K H v (dat x)
  lay : ∀ x : α, (dat x).canLay0 = true
  dep : Nat
  dle : ∀ x : α, (dat x).depth ≤ dep
  eq : ∀ x y : α, (PyData.eqv (dat x) (dat y) = true) ↔ x = y
section
variable {α β γ : Type} [Py α] [Py β] [Py γ]
instance : Dt Int := ⟨PyData.int, fun _ h => by rw [show _ = V.int _ from h]; exact .int _, fun _ => rfl, 0, fun _ => Nat.le_refl _, fun x y => by simp [PyData.eqv]⟩
instance : Dt Bool := ⟨PyData.bool, fun _ h => by rw [show _ = V.bl _ from h]; exact .bl _, fun _ => rfl, 0, fun _ => Nat.le_refl _, fun x y => by simp [PyData.eqv]⟩
theorem dpAll [Dt α] (e : Same S H) : ∀ {vs : List V} {xs : List α}, RepL K S vs xs → DpAll K H vs (xs.map Dt.dat)
  | [], [], _ => .nil
  | _ :: _, _ :: _, h => .cons (Dt.dp e h.1) (dpAll e h.2)
  | [], _ :: _, h => h.elim
  | _ :: _, [], h => h.elim
theorem layAll [Dt α] : ∀ xs : List α, PyData.canLayAll0 (xs.map Dt.dat) = true
  | [] => rfl
  | x :: xs => by rw [List.map_cons, PyData.canLayAll0, Dt.lay, layAll xs]; rfl
theorem depAll [Dt α] : ∀ xs : List α, PyData.depthAll (xs.map Dt.dat) ≤ Dt.dep α
  | [] => by rw [List.map_nil, PyData.depthAll]; exact Nat.zero_le _
  | x :: xs => by
    rw [List.map_cons, PyData.depthAll]
    have h1 := Dt.dle x
    have h2 := depAll xs
    omega
theorem eqAll [Dt α] : ∀ xs ys : List α, (PyData.eqvAll (xs.map Dt.dat) (ys.map Dt.dat) = true) ↔ xs = ys
  | [], [] => by simp [PyData.eqvAll]
  | [], _ :: _ => by simp [PyData.eqvAll]
  | _ :: _, [] => by simp [PyData.eqvAll]
  | x :: xs, y :: ys => by
    rw [List.map_cons, List.map_cons, PyData.eqvAll, Bool.and_eq_true, Dt.eq, eqAll xs ys, List.cons.injEq]
instance [Dt α] : Dt (List α) := ⟨fun xs => .list (xs.map Dt.dat), fun e ⟨p, vs, h1, h2, h3⟩ => by rw [h1]; exact .lst (SqL.of (e _ _ h2)) (dpAll e h3), fun xs => by rw [PyData.canLay0]; exact layAll xs, Dt.dep α + 1,
  fun xs => by rw [PyData.depth]; exact Nat.succ_le_succ (depAll xs), fun xs ys => by rw [PyData.eqv]; exact eqAll xs ys⟩
instance [Dt α] : Dt (Tp α) := ⟨fun xs => .tuple (xs.l.map Dt.dat), fun e ⟨p, vs, h1, h2, h3⟩ => by rw [h1]; exact .tup (seqT e h2) (dpAll e h3), fun xs => by rw [PyData.canLay0]; exact layAll xs.l, Dt.dep α + 1,
  fun xs => by rw [PyData.depth]; exact Nat.succ_le_succ (depAll xs.l), fun xs ys => by
    rw [PyData.eqv, eqAll]
    cases xs; cases ys
    simp⟩
instance [Dt α] [Dt β] : Dt (α × β) := ⟨fun x => .tuple [Dt.dat x.1, Dt.dat x.2], fun e ⟨p, a, b, h1, h2, h3, h4⟩ => by rw [h1]; exact .tup (seqT e h2) (.cons (Dt.dp e h3) (.cons (Dt.dp e h4) .nil)),
  fun x => by simp [PyData.canLay0, PyData.canLayAll0, Dt.lay], max (Dt.dep α) (Dt.dep β) + 1, fun x => by
    have h1 := Dt.dle x.1
    have h2 := Dt.dle x.2
    simp only [PyData.depth, PyData.depthAll]
    omega, fun x y => by
    simp only [PyData.eqv, PyData.eqvAll, Bool.and_eq_true, Dt.eq, and_true]
    exact ⟨fun h => Prod.ext h.1 h.2, fun h => by rw [h]; exact ⟨rfl, rfl⟩⟩⟩
instance [Dt α] [Dt β] [Dt γ] : Dt (T3 α β γ) := ⟨fun x => .tuple [Dt.dat x.a, Dt.dat x.b, Dt.dat x.c], fun e ⟨p, a, b, c, h1, h2, h3, h4, h5⟩ => by rw [h1]; exact .tup (seqT e h2) (.cons (Dt.dp e h3) (.cons (Dt.dp e h4) (.cons (Dt.dp e h5) .nil))),
  fun x => by simp [PyData.canLay0, PyData.canLayAll0, Dt.lay], max (Dt.dep α) (max (Dt.dep β) (Dt.dep γ)) + 1, fun x => by
    have h1 := Dt.dle x.a
    have h2 := Dt.dle x.b
    have h3 := Dt.dle x.c
    simp only [PyData.depth, PyData.depthAll]
    omega, fun x y => by
    simp only [PyData.eqv, PyData.eqvAll, Bool.and_eq_true, Dt.eq, and_true]
    cases x; cases y
    simp⟩
theorem shapedD [Dt α] (h : Dt.dep α ≤ 64) (x : α) : SeqAt.shaped (Dt.dat x) = true := by
  unfold SeqAt.shaped
  rw [Dt.lay, decide_eq_true (Nat.le_trans (Dt.dle x) h)]
  rfl
theorem eqvD [Dt α] [DecidableEq α] (x y : α) : PyData.eqv (Dt.dat x) (Dt.dat y) = decide (x = y) := by
  by_cases e : x = y
  · rw [decide_eq_true e]
    exact (Dt.eq x y).mpr e
  · rw [decide_eq_false e]
    exact Bool.eq_false_iff.mpr fun h => e ((Dt.eq x y).mp h)
theorem ev_eqD [Dt α] [DecidableEq α] {x y : α} (ha : EvX K ta G x G1) (hb : EvX K tb G1 y G2) (h : Dt.dep α ≤ 64) : EvX K (tOp (rEqD K) ta tb) G (decide (x = y)) G2 := fun B S0 S σ H F k Q q =>
  ha B S0 S σ H F k _ fun v S1 H1 e1 k1 r1 => hb B S0 S1 σ H1 F k1 _ fun w S2 H2 e2 k2 r2 =>
    ⟨_, _, Dt.dp k2.sub (Py.mono e2 r1), Dt.dp k2.sub r2, shapedD h x, shapedD h y, q _ S2 H2 (e1.trans e2) k2 (by rw [eqvD]; rfl)⟩
theorem ev_neD [Dt α] [DecidableEq α] {x y : α} (ha : EvX K ta G x G1) (hb : EvX K tb G1 y G2) (h : Dt.dep α ≤ 64) : EvX K (tOp (rNeD K) ta tb) G (!decide (x = y)) G2 := fun B S0 S σ H F k Q q =>
  ha B S0 S σ H F k _ fun v S1 H1 e1 k1 r1 => hb B S0 S1 σ H1 F k1 _ fun w S2 H2 e2 k2 r2 =>
    ⟨_, _, Dt.dp k2.sub (Py.mono e2 r1), Dt.dp k2.sub r2, shapedD h x, shapedD h y, q _ S2 H2 (e1.trans e2) k2 (by rw [eqvD]; rfl)⟩
/-- where the left one is an owned list -/
theorem dpC [Dt α] {v : V} {xs : List α} (r : Rdl K S σ G v xs) (k : Kn K B S0 S σ H F G) : Dp K H v (Dt.dat xs) := by
  obtain ⟨p, vs, rfl, hp, hr⟩ := r.at k
  exact .lst (SqL.of hp) (dpAll k.sub hr)
theorem ev_eqC [Dt α] [DecidableEq α] {x y : List α} (ha : EvC K ta G x G) (hb : EvC K tb G y G) (h : Dt.dep (List α) ≤ 64) : EvX K (tOp (rEqD K) ta tb) G (decide (x = y)) G := fun B S0 S σ H F k Q q =>
  ha B S0 S σ H F k _ fun v S1 H1 e1 k1 r1 => hb B S0 S1 σ H1 F k1 _ fun w S2 H2 e2 k2 r2 =>
    ⟨_, _, dpC (r1.mono e2) k2, dpC r2 k2, shapedD h x, shapedD h y, q _ S2 H2 (e1.trans e2) k2 (by rw [eqvD]; rfl)⟩
theorem ev_neC [Dt α] [DecidableEq α] {x y : List α} (ha : EvC K ta G x G) (hb : EvC K tb G y G) (h : Dt.dep (List α) ≤ 64) : EvX K (tOp (rNeD K) ta tb) G (!decide (x = y)) G := fun B S0 S σ H F k Q q =>
  ha B S0 S σ H F k _ fun v S1 H1 e1 k1 r1 => hb B S0 S1 σ H1 F k1 _ fun w S2 H2 e2 k2 r2 =>
    ⟨_, _, dpC (r1.mono e2) k2, dpC r2 k2, shapedD h x, shapedD h y, q _ S2 H2 (e1.trans e2) k2 (by rw [eqvD]; rfl)⟩
end
/-! ### chains of comparisons -/
theorem ev_chain {f f' : Int → Int → Bool} {a b c : Int} (ha : EvX K ta G a G) (hb : EvX K tb G b G) (hc : EvX K tc G c G) : EvX K (tChain (rI0 fun i j => .bl (f i j)) (rI0 fun i j => .bl (f' i j)) ta tb tc) G (f a b && f' b c) G := fun B S0 S σ H F k Q q =>
  ha B S0 S σ H F k _ fun v S1 H1 e1 k1 r1 => hb B S0 S1 σ H1 F k1 _ fun w S2 H2 e2 k2 r2 => ⟨a, b, r1, r2, f a b, rfl, by
    cases hf : f a b with
    | true =>
      rw [if_pos rfl]
      exact hc B S0 S2 σ H2 F k2 _ fun x S3 H3 e3 k3 r3 => ⟨b, c, r2, r3, q _ S3 H3 ((e1.trans e2).trans e3) k3 (by rw [hf]; rfl)⟩
    | false =>
      rw [if_neg Bool.false_ne_true]
      exact q _ S2 H2 (e1.trans e2) k2 (by rw [hf]; rfl)⟩
/-! ### is None -/
theorem ev_isN {α : Type} [Py α] {x : Option α} (hx : ∀ (K : Fg) (S : Hp) (v : V) (y : α), Py.rep K S v y → v ≠ .non) (ha : EvX K ta G x G1) : EvX K (tIsN ta) G x.isNone G1 := fun B S0 S σ H F k Q q =>
  ha B S0 S σ H F k _ fun v S1 H1 e1 k1 r1 => q _ S1 H1 e1 k1 (by
    cases x with
    | none => rw [show v = .non from r1]; rfl
    | some y => exact congrArg V.bl (decide_eq_false (hx K S1 v y r1)))
theorem ev_notN {α : Type} [Py α] {x : Option α} (hx : ∀ (K : Fg) (S : Hp) (v : V) (y : α), Py.rep K S v y → v ≠ .non) (ha : EvX K ta G x G1) : EvX K (tNotN ta) G x.isSome G1 := fun B S0 S σ H F k Q q =>
  ha B S0 S σ H F k _ fun v S1 H1 e1 k1 r1 => q _ S1 H1 e1 k1 (by
    cases x with
    | none => rw [show v = .non from r1]; rfl
    | some y => exact congrArg V.bl (by rw [decide_eq_false (hx K S1 v y r1)]; rfl))
/-! ### returns of new lists -/
theorem q_retL {α : Type} [Py α] {xs : List α} (h : EvL K te G xs G1) (k : ∀ S σ H F p vs, Kn K B S0 S σ H F G1 → S p = none → B p = none → (∀ j, p ∉ F j) → H p = some (.lst vs) → RepL K S vs xs → E.rt (.ref p) H) : At K B S0 (tSeq (tRet te) u E) G := fun S σ H F kn =>
  h B S0 S σ H F kn _ fun p vs S' H' e kn' hs hb hf hp r => k S' σ H' F p vs kn' hs hb hf hp r
/-! ### the laws' springs -/
theorem ev_ixS {xs : Scr} {n : Int} (ha : EvX K ta G xs G1) (hb : EvX K tb G1 n G2) (h : 0 ≤ n ∧ n < xs.l.length) : EvX K (tOp (rIxL K) ta tb) G (ix xs.l n) G2 := fun B S0 S σ H F k Q q =>
  ha B S0 S σ H F k _ fun v S1 H1 e1 k1 r1 => hb B S0 S1 σ H1 F k1 _ fun w S2 H2 e2 k2 r2 => by
    obtain ⟨p, rfl, hp⟩ := Py.mono e2 r1
    refine ⟨p, _, n, .int (ix xs.l n), rfl, r2, k2.sub.seq hp, atI_of h.1 ?_, q _ S2 H2 (e1.trans e2) k2 rfl⟩
    rw [List.getElem?_map, ix_at h.1 h.2]
    rfl
theorem ev_spr0 {z : Spr} (hi : G[i]? = some (.ow z)) : EvX K (tOp (rIxL K) (tVar i) (tC (.int 0))) G z.z G := fun B S0 S σ H F k Q q => by
  obtain ⟨v, h1, h2, h3, h4⟩ := k.ow hi
  exact ⟨v, h1, z.a, _, 0, .int z.z, h2, rfl, SqL.of h4, atI_nat (j := 0) rfl, q _ S H (Same.refl _) k rfl⟩
theorem q_sprset {z : Spr} {n : Int} (h : EvX K te G n G) (hi : G[i]? = some (.ow z)) (k : At K B S0 (u E) (G.set i (.ow (Spr.mk z.a n)))) : At K B S0 (tSeq (tAsg te (gSub (tVar i) (tC (.int 0)) rSetL)) u E) G := fun S σ H F kn =>
  h B S0 S σ H F kn _ fun v S1 H1 e1 k1 r1 => by
    obtain ⟨w, h1, h2, h3, h4⟩ := k1.ow hi
    refine ⟨w, h1, z.a, _, 0, 0, h2, rfl, h4, rfl, k S1 σ _ F ?_⟩
    rw [show v = .int n from r1]
    refine k1.mut h1 (fun q hq => upd_ne fun e => hq (by rw [h3, e]; exact List.mem_singleton.mpr rfl)) (fun q hq => ?_) ⟨h2, h3, upd_same⟩
    rw [h3] at hq
    cases List.mem_singleton.mp hq
    exact ⟨_, upd_same⟩
theorem q_spr (i : Nat) {z : Int} (h : EvL K te G [z] G1) (hi : G1[i]?.isSome = true) (k : ∀ s : Spr, s.z = z → At K B S0 (u E) (G1.set i (.ow s))) : At K B S0 (tSeq (tAsg te (gName i)) u E) G := fun S σ H F kn =>
  h B S0 S σ H F kn _ fun p vs S' H' e kn' hs hb hf hp r => by
    have er : vs = [.int z] := by rw [r.ints]; rfl
    rw [er] at hp
    exact k ⟨p, z⟩ rfl S' _ H' _ (kn'.setOwn (v := .ref p) (x := Spr.mk p z) ⟨rfl, rfl, hp⟩ hi hs hb ⟨_, hp⟩ hf)
end
end GL

namespace GL
open PySem PySem.Spec PyProof.Rows L2
def spLaw (K : Fg) : Sp := fun vs H Q _ => ∃ (a : Addr) (ns : List Int), vs = [.ref a] ∧ SqL K H a (ns.map V.int) ∧ ns.length ≤ 63 ∧ ∀ H', Q (.bl true) H'
/-- a spring's making: some number -/
def spSpring (K : Fg) : Sp := fun vs H Q _ => ∃ (S : Hp) (a : Scr × Int × Unit), Same S H ∧ PyA.rep K S vs a ∧ (0 ≤ a.2.1 ∧ a.2.1 ≤ 1000) ∧ ∀ z p S' H', Grow S H S' H' → H p = none → S' p = none → H' p = some (.lst [.int z]) → Q (.ref p) H'
section
variable {P : Program} {w : World} {K : Fg} {mg : Str → Option Value} {base : Heap}
theorem fn_law {st : Stmt} {fa : Addr} {fd : FuncData} {N : List Str} {k : Nat} (F : Fun K "law" "law" st fa fd) (S : FnScope N ["script"] (defScope st))
    (h : ∀ (cdv : Value) (A : Around) (outer : List Env) (s : Shared) (H : Hp) (E : XK), Room k (A.deeper (envOfC "law" (defScope st) s.heap.objs.size fa cdv)) →
      ∃ t, PSs (cxOf CX0 P w K mg base N "law" (defScope st) fa cdv A outer s H E).nox (defBody st) t ∧
        ∀ (a : Scr), a.l.length ≤ 63 → ∀ (B S0 : Hp) (Q : VK), (∀ (G' : List Sl) (y : Bool), y = true → RT K B S0 Q y G') → At K B S0 (t { nx := fun _ H' => Q .non H', rt := Q }) (.im a :: List.replicate (N.length - 1) .no)) :
    FnOk P w K mg base CX0 (k + 1) fa fd ["script"] (spLaw K) := by
  refine F.ok S (fun vs H Q E ⟨a, ns, e, _⟩ => by rw [e]; rfl) fun cdv A outer s H vs Q E hr ⟨a, ns, e, hs, hl, q⟩ => ?_
  subst e
  obtain ⟨t, h1, h2⟩ := h cdv A outer s H E hr
  have kn := start_kn (K := K) (H := H) (S := H) (vs := [.ref a]) (a := ((⟨ns⟩, ()) : Scr × Unit)) (N := N) (Same.refl _) ⟨.ref a, [], rfl, ⟨a, rfl, hs⟩, rfl⟩
  refine ⟨t, h1, h2 ⟨ns⟩ hl H H Q (fun G' y ey S1 σ1 H1 F1 v k1 r1 => ?_) H _ H _ kn⟩
  rw [show v = .bl y from r1, ey]
  exact q H1
theorem def_spring {x : Str} {st : Stmt} {N ps : List Str} {k : Nat} (D : Def K mg x st ps) (S : FnScope N ps (defScope st)) (hn : 2 = ps.length)
    (h : ∀ (fa : Addr) (cdv : Value) (A : Around) (outer : List Env) (s : Shared) (H : Hp) (E : XK), Room k (A.deeper (envOfC x (defScope st) s.heap.objs.size fa cdv)) →
      ∃ t, PSs (cxOf CX0 P w K mg base N x (defScope st) fa cdv A outer s H E).nox (defBody st) t ∧
        ∀ (scr : Scr) (n : Int), 0 ≤ n → n ≤ 1000 → ∀ (B S0 : Hp) (Q : VK), (∀ (z : Int) (G' : List Sl) S σ H F p vs, Kn K B S0 S σ H F G' → S p = none → B p = none → (∀ j, p ∉ F j) → H p = some (.lst vs) → RepL K S vs [z] → Q (.ref p) H) →
          At K B S0 (t { nx := fun _ H' => Q .non H', rt := Q }) (.im scr :: .im n :: List.replicate (N.length - 2) .no)) :
    Cal P w K mg base (k + 1) x ps (spSpring K) := by
  obtain ⟨fa, fd, m, Fu, b⟩ := D.ex
  refine ⟨fa, fd, m, Fu.ok S (fun vs H Q E ⟨S, a, _, r, _⟩ => (PyA.len r).trans hn) fun cdv A outer s H vs Q E hr ⟨S', a, e, r, hp, q⟩ => ?_, Fu.kp, b⟩
  obtain ⟨t, h1, h2⟩ := h fa cdv A outer s H E hr
  obtain ⟨scr, n, u⟩ := a
  refine ⟨t, h1, h2 scr n hp.1 hp.2 H S' Q (fun z G' S1 σ1 H1 F1 p vs k1 hs hb hf hp r1 => ?_) S' _ H _ (start_kn e r)⟩
  have er : vs = [.int z] := by rw [r1.ints]; rfl
  rw [er] at hp
  exact q z p S1 H1 ⟨k1.s0, k1.sub, k1.keep, k1.clean⟩ hb hs hp
end
section
variable {K : Fg} {B S0 : Hp} {G G1 : List Sl} {t : TA} {E : XK} {u : TS} {D : Ends}
theorem q_spring (i : Nat) {scr : Scr} {n : Int} (ha : EvA K t G (scr, n, ()) G1) (hp : 0 ≤ n ∧ n ≤ 1000) (hi : G1[i]?.isSome = true) (k : ∀ s : Spr, At K B S0 (u D) (G1.set i (.ow s))) : At K B S0 (tSeq (tAsg (tCall (spSpring K) [] E t) (gName i)) u D) G := fun S σ H F kn =>
  ha B S0 S σ H F kn _ fun vs S1 H1 e1 k1 r1 => by
    show spSpring K (vs ++ []) H1 _ E
    rw [List.append_nil]
    refine ⟨S1, _, k1.sub, r1, hp, fun z p S2 H2 g hn hs h2 => ?_⟩
    obtain ⟨_, b, c⟩ := k1.free hn
    exact k ⟨p, z⟩ S2 _ H2 _ ((k1.grow g).setOwn (v := .ref p) (x := Spr.mk p z) ⟨rfl, rfl, h2⟩ hi hs b ⟨_, h2⟩ c)
end
@[irreducible] def lawCup (z : Spr) (m : Int) : Int × Spr := (z.z % m, ⟨z.a, z.z / m⟩)
theorem cup_bd (z : Spr) {m : Int} (h : 0 < m) : 0 ≤ (lawCup z m).1 ∧ (lawCup z m).1 < m := by
  unfold lawCup
  exact ⟨Int.emod_nonneg _ (by omega), Int.emod_lt_of_pos _ h⟩
theorem cup_a (z : Spr) (m : Int) : (lawCup z m).2.a = z.a := by unfold lawCup; rfl
theorem cup_ex {z z' : Spr} {m : Int} (_ : z' = (lawCup z m).2) (h : 0 < m) : ∃ d, (lawCup z m).1 = d ∧ 0 ≤ d ∧ d < m := ⟨_, rfl, cup_bd z h⟩
theorem le_line {n : Nat} (h : n ≤ 1000000) : n ≤ sizeLine := Nat.le_trans h (by decide)
theorem lt_line {n : Nat} (h : n ≤ 1000000) : n < sizeLine := Nat.lt_of_le_of_lt h (by decide)
theorem cup_fact {z z' : Spr} {m : Int} (_ : z' = (lawCup z m).2) (h : 0 < m) : 0 ≤ (lawCup z m).1 ∧ (lawCup z m).1 < m := cup_bd z h
end GL

namespace GL
open PySem PySem.Spec PyProof.Rows L2
theorem tuple_mul0 (l : Addr) (items : Array Value) (n : Nat) (dd : Option Addr) (sl : Array (Option Value)) (x : Int) (u : Tok) (c0 : (decide (x < -(2 ^ 63)) || decide (x ≥ 2 ^ 63)) = false) (c1 : (items.isEmpty || x == 1) = false) (c2 : (decide (x ≤ 0) || items.isEmpty) = true) :
    Meets (Builtin.«tuple.__mul__» ⟨[.ref l, .int x u], []⟩) (fun _ R s => s.heap.get? l = some { cls := .type "tuple", dict := dd, data := .seq items n, slots := sl } ∧
      R (.ok (.ret (Value.ref s.heap.objs.size))) { s with heap := s.heap.push { cls := Value.type "tuple", data := Data.seq #[] }, toks := s.toks }) :=
  .of_wp fun prog w A R s h => by
    obtain ⟨hp, g, d, tk, os⟩ := s
    obtain ⟨hl, h⟩ := h
    have f1 := AutoSeq1.idx_int
    wp_walk using wpAny_loadPart' hl
    repeat (first
      | (refine wpAny_ite_false (decide_eq_false (by rw [c0]; exact Bool.false_ne_true)) ?_; wp_walk using wpAny_loadPart' hl)
      | (refine wpAny_ite_false (decide_eq_false (by rw [c1]; exact Bool.false_ne_true)) ?_; wp_walk using wpAny_loadPart' hl)
      | (refine wpAny_ite_true (decide_eq_true c2) ?_; wp_walk using wpAny_loadPart' hl)
      | (refine wpAny_ite_false (decide_eq_false (by decide)) ?_; wp_walk using wpAny_loadPart' hl))
    exact ⟨_, rfl, h⟩
theorem tuple_mul1 (l : Addr) (items : Array Value) (n : Nat) (dd : Option Addr) (sl : Array (Option Value)) (u : Tok) :
    Meets (Builtin.«tuple.__mul__» ⟨[.ref l, .int 1 u], []⟩) (fun _ R s => s.heap.get? l = some { cls := .type "tuple", dict := dd, data := .seq items n, slots := sl } ∧ R (.ok (.ret (Value.ref l))) s) :=
  .of_wp fun prog w A R s h => by
    obtain ⟨hp, g, d, tk, os⟩ := s
    obtain ⟨hl, h⟩ := h
    have f1 := AutoSeq1.idx_int
    wp_walk using wpAny_loadPart' hl
    repeat (first
      | (refine wpAny_ite_false (decide_eq_false (by decide)) ?_; wp_walk using wpAny_loadPart' hl)
      | (refine wpAny_ite_true (decide_eq_true (by rw [Bool.or_eq_true]; exact .inr rfl)) ?_; wp_walk using wpAny_loadPart' hl))
    exact ⟨_, rfl, h⟩
def rRepTA (K : Fg) : R2 := fun x y H Q => ∃ l k xs, x = .ref l ∧ y = .int k ∧ SqT K H l xs ∧ xs ≠ [] ∧ -1000 ≤ k ∧ k ≤ 1000 ∧ xs.length ≤ 1000 ∧ (k ≤ 0 → ∀ p, H p = none → Q (.ref p) (upd H p (.tup []))) ∧ (k = 1 → Q (.ref l) H) ∧
  (2 ≤ k → ∀ p, H p = none → Q (.ref p) (upd H p (.tup (List.replicate k.toNat xs).flatten)))
theorem op_repTA {X : Cx} : OpR X (binaryOp .Mult) (rRepTA X.K) := by
  intro pins s σ H x y v u Q I rx ry h
  obtain ⟨l, k, xs, rfl, rfl, hT, hne, h0, h2, hz, q0, q1, q2⟩ := h
  by_cases hk : 2 ≤ k
  · exact op_repT pins s σ H _ _ v u Q I rx ry ⟨l, k, xs, rfl, rfl, hT, hne, hk, h2, hz, q2 hk⟩
  cases rx
  obtain ⟨t, rfl⟩ := ry
  obtain ⟨its, r, ⟨⟨cls, dd, data, sl⟩, ho, hc, n, hd⟩, hs⟩ := I.tuple hT
  simp only at hc hd
  subst hc hd
  have hle : its.length = xs.length := r.length.symm
  have hn : its ≠ [] := fun e => hne (by
    rw [e] at hle
    exact List.eq_nil_of_length_eq_zero hle.symm)
  have hi : its.toArray.isEmpty = false := by
    cases its with
    | nil => exact absurd rfl hn
    | cons a b => rfl
  have c0 : (decide (k < -(2 ^ 63)) || decide (k ≥ 2 ^ 63)) = false := by
    rw [decide_eq_false (by omega), decide_eq_false (by omega)] <;> rfl
  by_cases hk1 : k = 1
  · subst hk1
    refine wpAny_binaryOp_repeat_ref (T := "tuple") (U := "int") (by decide) ⟨_, ho, rfl⟩ (fun s' => typeIs_int s' 1 t) noFill_tuple_mul F.fills_int_mul F.slot_int_rmul repeat_tuple F.slot_int_index.lookup
      (call_meets F.slot_int_rmul (typeIs_int s 1 t) F.entry_int_rmul (F.args_int_rmul_2 _ _) (int_rmul_tuple 1 t l its.toArray n dd sl)
        ⟨ho, rfl, ⟨_, ho, rfl⟩, call_meets F.slot_tuple_mul ⟨_, ho, rfl⟩ F.entry_tuple_mul (F.args_tuple_mul_2 _ _) (tuple_mul1 l its.toArray n dd sl t) ⟨ho, ?_⟩⟩)
    exact ⟨.ref l, H, I, rfl, q1 rfl⟩
  · have c1 : (its.toArray.isEmpty || k == 1) = false := by
      rw [hi, Bool.false_or]
      exact beq_eq_false_iff_ne.mpr hk1
    have c2 : (decide (k ≤ 0) || its.toArray.isEmpty) = true := by
      rw [hi, Bool.or_false]
      exact decide_eq_true (by omega)
    refine wpAny_binaryOp_repeat_ref (T := "tuple") (U := "int") (by decide) ⟨_, ho, rfl⟩ (fun s' => typeIs_int s' k t) noFill_tuple_mul F.fills_int_mul F.slot_int_rmul repeat_tuple F.slot_int_index.lookup
      (call_meets F.slot_int_rmul (typeIs_int s k t) F.entry_int_rmul (F.args_int_rmul_2 _ _) (int_rmul_tuple k t l its.toArray n dd sl)
        ⟨ho, rfl, ⟨_, ho, rfl⟩, call_meets F.slot_tuple_mul ⟨_, ho, rfl⟩ F.entry_tuple_mul (F.args_tuple_mul_2 _ _) (tuple_mul0 l its.toArray n dd sl k t c0 c1 c2) ⟨ho, ?_⟩⟩)
    refine ⟨.ref s.heap.objs.size, _, I.laid (t' := s.toks) (o := .tup []) (fun b ob q => Heap.get?_push_of_some _ q) (Nat.le_refl _) ?_, rfl, q0 (by omega) _ (I.hok.fresh (Nat.le_refl _))⟩
    exact ⟨Nat.zero_le _, [], .nil, IsTup.new _ _⟩
section
variable {K : Fg} {G G1 G2 : List Sl} {ta tb : TE} {α : Type} [Py α]
theorem ev_repT {xs : Tp α} {k : Int} (ha : EvX K ta G xs G1) (hb : EvX K tb G1 k G2) (hx : xs.l ≠ []) (hl : xs.l.length ≤ 1000) (h0 : -1000 ≤ k) (h1 : k ≤ 1000) : EvX K (tOp (rRepTA K) ta tb) G (Tp.mk (List.replicate k.toNat xs.l).flatten) G2 := fun B S0 S σ H F kn Q q =>
  ha B S0 S σ H F kn _ fun v S1 H1 e1 k1 r1 => hb B S0 S1 σ H1 F k1 _ fun w S2 H2 e2 k2 r2 => by
    obtain ⟨p, vs, rfl, hp, hr⟩ := Py.mono e2 r1
    have hlen := hr.len
    refine ⟨p, k, vs, rfl, r2, seqT k2.sub hp, fun e => hx (List.eq_nil_of_length_eq_zero (by rw [← hlen, e]; rfl)), h0, h1, by omega, fun hk p' hp' => ?_, fun hk => ?_, fun hk p' hp' => ?_⟩
    · have e0 : k.toNat = 0 := by omega
      have s3 := same_new (o := .tup []) (k2.free hp').1
      exact q _ _ _ ((e1.trans e2).trans s3) (k2.new hp') ⟨p', [], rfl, SqT.of upd_same, by rw [e0]; exact True.intro⟩
    · subst hk
      exact q _ S2 H2 (e1.trans e2) k2 ⟨p, vs, rfl, hp, by
        show RepL K S2 vs (List.replicate 1 xs.l).flatten
        simp
        exact hr⟩
    · have s3 := same_new (o := .tup (List.replicate k.toNat vs).flatten) (k2.free hp').1
      exact q _ _ _ ((e1.trans e2).trans s3) (k2.new hp') ⟨p', _, rfl, SqT.of upd_same, (hr.rep k.toNat).mono s3⟩
end
end GL

set_option maxHeartbeats 4000000
namespace L2
open PySem PySem.Spec PyProof.Rows
section
variable {P : Program} {w : World} {A : Around} {E : Value → Shared → Prop} {s : Shared}
/-- set(xs), xs a list of whole numbers, with the set's table -/
theorem call_set_lstI {l : Addr} {items : Array Value} (ns : List Int) {Q : Value → Shared → Prop} (hh : A.handled = none) (hl : s.heap.IsList l items) (hit : IntsAre items.toList ns) (hb : ns.length + 1 < scanBound)
    (h : ∀ (h' : Heap) (tk c : Nat), SetR w h' s.heap.objs.size (fun j => decide (j ∈ ns)) c → c ≤ ns.length → (∀ b o, s.heap.get? b = some o → h'.get? b = some o) → Q (.ref s.heap.objs.size) { s with heap := h', toks := tk }) :
    wpAny (model P w) A (call (.type "set") [.ref l]) Q E s := by
  have hisz : items.size = ns.length := by
    have q := IntsAre.length hit
    rw [Array.length_toList] at q
    exact q
  obtain ⟨c, tl, hmro⟩ := F.called_set.mro
  have hmade := F.called_set.made
  have hsub := F.called_set.sub
  refine wpAny_call (codeAny_of_tree ?_)
  show wpAny _ _ (callAny (.type "set") _) _ _ _
  refine wpAny_pure ⟨Code.quiet_builtin _ (by decide +kernel), codeAny_builtin F.entry_type_call ?_⟩
  rw [Around.under_plain (weight_type_call_type "set" [.ref l] []) rfl]
  have h1 := F.called_set.notType
  have h2 := F.called_set.canCreate
  have hct := F.typeCall_set_1 (.ref l)
  repeat (any_goals (first | assumption | wp_step))

  refine codeAny_mono (code_set_led1 (.ref l) (E := E) (Q₁ := fun obj s₁ => obj = .ref s.heap.objs.size ∧ s₁ = { s with heap := s.heap.push { cls := .type "set", dict := none, data := .set #[] 0 (.fresh 0 0 (!w.params.followText "set-order")) } }) ⟨rfl, rfl⟩) fun r s₁ hr => ?_
  cases r with
  | error e => exact hr
  | ok fl =>
    cases fl with
    | ret obj =>
      obtain ⟨rfl, rfl⟩ := hr
      have hS : (s.heap.push { cls := .type "set", dict := none, data := .set #[] 0 (.fresh 0 0 (!w.params.followText "set-order")) }).get? s.heap.objs.size = some { cls := .type "set", dict := none, data := .set #[] 0 (.fresh 0 0 (!w.params.followText "set-order")) } := Heap.get?_push_size _ rfl
      have hT : Shared.TypeIs { s with heap := s.heap.push { cls := .type "set", dict := none, data := .set #[] 0 (.fresh 0 0 (!w.params.followText "set-order")) } } (.ref s.heap.objs.size) "set" := ⟨_, hS, rfl⟩
      have hli := F.called_set.init.lookup
      have hbi := F.called_set.init.bind (.ref s.heap.objs.size)
      repeat (any_goals (first | assumption | wp_step))

      refine codeAny_mono (codeAny_call_builtin (R := wants (fun r s₂ => r = .none ∧ ∃ h' tk c, s₂ = { s with heap := h', toks := tk } ∧ SetR w h' s.heap.objs.size (fun j => decide (j ∈ ns)) c ∧ c ≤ ns.length ∧
          (∀ b o, s.heap.get? b = some o → h'.get? b = some o)) E) F.called_set.init.plain F.entry_set_init (check_set_init_1 hT ?_)) fun r₂ s₂ hr₂ => ?_
      · obtain ⟨ol, hol, hcl, nl, hdl⟩ := hl
        obtain ⟨ocls, odict, odata, oslots⟩ := ol
        simp only at hcl hdl
        subst hcl; subst hdl
        have hol' : (s.heap.push { cls := .type "set", dict := none, data := .set #[] 0 (.fresh 0 0 (!w.params.followText "set-order")) }).get? l = some { cls := .type "list", dict := odict, data := .seq items nl, slots := oslots } := Heap.get?_push_of_some _ hol
        have hsls := F.sub_list_set
        have hslf := F.sub_list_frozenset
        have hne : (Value.type "list" == Value.type "dict") = false := by decide
        have hl1 : (s.heap.push { cls := .type "set", dict := none, data := .set #[] 0 (.fresh 0 0 (!w.params.followText "set-order")) }).IsList l items := ⟨_, hol', rfl, nl, rfl⟩
        unfold Builtin.«set.__init__» noKeywords Builtin.Frozenset.updateFrom
        generalize hPI : pyIter = PI
        wp_walk
        subst hPI

        refine wpAny_pyIter_list hl1 ?_
        refine wpAny_bind (wpAny_runValue ?_)
        have hlS : l < s.heap.objs.size := Heap.lt_size hol
        have hh3 : A.in1.in1.in1.handled = none := by simp [hh]
        have hneI : l ≠ (s.heap.push { cls := .type "set", dict := none, data := .set #[] 0 (.fresh 0 0 (!w.params.followText "set-order")) }).objs.size := by
          rw [Heap.size_push]; exact Nat.ne_of_lt (Nat.lt_succ_of_lt hlS)
        have hSf : s.heap.objs.size ∉ [(s.heap.push { cls := .type "set", dict := none, data := .set #[] 0 (.fresh 0 0 (!w.params.followText "set-order")) }).objs.size, l] := by
          rw [Heap.size_push]; simp only [List.mem_cons, List.mem_singleton, List.not_mem_nil, or_false, not_or]
          exact ⟨Nat.ne_of_lt (Nat.lt_succ_self _), Nat.ne_of_gt hlS⟩
        have hval : ∀ (i : Nat) (v : Value), items[i]? = some v → ∃ k t, ns[i]? = some k ∧ v = .int k t := fun i v hv => by
          have hi : i < ns.length := by rw [← hisz]; exact (Array.getElem?_eq_some_iff.mp hv).1
          obtain ⟨t, e⟩ := PyProof.Rows.IntsAre.int_at hit i v (by rw [Array.getElem?_toList]; exact hv)
          refine ⟨ns[i], t, List.getElem?_eq_getElem hi, ?_⟩
          rw [e, List.getD_eq_getElem?_getD, List.getElem?_eq_getElem hi] <;> rfl
        refine set_update_ints ((Walks.list hh3 _ l hneI items).toS) s.heap.objs.size
          hSf ns hisz hb hval (items.size - 0) 0 _ (by omega) (Nat.zero_le _)
          ⟨⟨_, Heap.get?_push_size _ rfl, rfl, rfl⟩, (hl1.push _)⟩ ?hS0 ?hR
        case hS0 =>
          exact ⟨0, Nat.le_refl 0, setR_new_at (Heap.get?_push_of_some _ hS)⟩
        case hR =>
          intro s' c' hm hc' hS'
          obtain ⟨h', g2, d', tk', os'⟩ := s'
          have eg : g2 = s.gens := hm.gens
          have ed : d' = s.drawn := hm.drawn
          have eo : os' = s.os := hm.os
          subst eg; subst ed; subst eo
          show wpAny _ _ _ _ _ _
          refine wpAny_pure ?_
          show wpAny _ _ (ret Value.none) _ _ _
          rw [hisz] at hc'
          refine wpAny_pure ⟨rfl, h', tk', c', rfl, hS', hc', fun b o e => ?_⟩
          have hb0 : b < s.heap.objs.size := Heap.lt_size e
          have hb1 : b ≠ s.heap.objs.size := Nat.ne_of_lt hb0
          have hb2 : b ≠ (s.heap.push { cls := .type "set", dict := none, data := .set #[] 0 (.fresh 0 0 (!w.params.followText "set-order")) }).objs.size := by
            rw [Heap.size_push]; exact Nat.ne_of_lt (Nat.lt_succ_of_lt hb0)
          exact hm.heap b o (by simp only [List.mem_cons, List.mem_singleton, List.not_mem_nil, or_false, not_or]; exact ⟨hb1, hb2⟩) (Heap.get?_push_of_some _ (Heap.get?_push_of_some _ e))

      · cases r₂ with
        | error e => exact hr₂
        | ok fl₂ =>
          cases fl₂ with
          | ret r =>
            obtain ⟨rfl, h', tk, c', rfl, hS', hc', hk'⟩ := hr₂
            repeat (any_goals (first | assumption | wp_step))
            exact h _ _ _ hS' hc' hk'
          | _ => exact hr₂.elim
    | _ => exact hr.elim
end
section
variable {X : Cx}
/-- sorted(set(xs)), xs a list of whole numbers -/
def tSortSet (K : PySem.W.Frag) (ta : TE) : TE := fun σ H Q => ta σ H fun x H1 => ∃ (l : Addr) (ns : List Int), x = V.ref l ∧ SqL K H1 l (ns.map V.int) ∧ ns.length < 64 ∧
  ∀ (ms : List Int) (p : Addr), ms.Pairwise (· < ·) → (∀ k : Int, k ∈ ms ↔ k ∈ ns) → H1 p = none → Q (.ref p) (upd H1 p (.lst (ms.map V.int)))
theorem pe_sortSet {a : Expr} {ta : TE} {p p2 q pos : Pos} (hc : X.calm = true) (hg : Gl X "sorted") (hm : X.mg "sorted" = none) (hg2 : Gl X "set") (hm2 : X.mg "set" = none) (ha : PE X a ta)
    (na : starEach [a] X.env = (false, eval a X.env) :: starEach [] X.env := by rfl) : PE X (.Call (.Name "sorted" p) [.Call (.Name "set" p2) [a] [] q] [] pos) (tSortSet X.K ta) := by
  refine ⟨fun pins s σ H Q I h => ?_⟩
  refine Call_ (ld_blt I hg hm PyProof.Rows.boot_sorted ?_)
  refine PyProof.Rows.callWith_builtin1 (PyProof.Rows.args_cons ?_ rfl) rfl rfl
  refine Call_ (ld_blt I hg2 hm2 PyProof.Rows.boot_set ?_)
  refine PyProof.Rows.callWith_type1 (PyProof.Rows.args_cons (thn (ha.run pins s σ H _ I h) fun v s1 ⟨x, H1, I1, r1, q1⟩ => PyProof.Rows.args_nil ?_) na) na rfl
  obtain ⟨l, ns, rfl, hq, h1, q1⟩ := q1
  cases r1
  obtain ⟨its, r, pl, hz⟩ := I1.list hq
  refine call_set_lstI ns (I1.ok.hd hc) pl.isList (by simpa using r.ints) (by unfold scanBound; omega) fun h' tk c R hcn hk => ?_
  refine PyProof.Rows.args_nil ?_
  have I2 : Inv X pins σ H1 { s1 with heap := h', toks := tk } := I1.kept hk
  refine sorted_set R (I2.ok.hd hc) (by omega) fun s' p out c ms k g o hp hg hi hs hm hl => ?_
  have hlen : (ms.map V.int).length ≤ sizeLine := by rw [List.length_map, hl, sizeLine_eq]; omega
  have hn : H1 p = none := I2.hok.fresh hp
  have J : Inv X pins σ (upd H1 p (.lst (ms.map V.int))) { { s1 with heap := h', toks := tk } with heap := s'.heap, gens := s'.gens, drawn := s'.drawn, toks := s'.toks } :=
    I2.call (ch := []) (Un.laid k hp hn) (I2.hok.laid k hp ⟨hlen, out.toList, c, vals_of_ints hi, hg⟩) (by rw [g]; exact I2.bare) (fun _ z => nomatch z)
  have e : s' = { { s1 with heap := h', toks := tk } with heap := s'.heap, gens := s'.gens, drawn := s'.drawn, toks := s'.toks } := by
    cases s'
    cases s1
    cases o
    rfl
  rw [e]
  exact ⟨.ref p, _, J, rfl, q1 ms p hs (fun k => by rw [hm k]; exact decide_eq_true_iff) hn⟩
end
end L2
namespace GL
open PySem PySem.Spec PyProof.Rows L2
section
variable {K : Fg} {B S0 S1 S S' : Hp} {σ : L2.St} {H H' : Hp} {F : Nat → List Addr} {G G' G1 G2 G3 : List Sl} {ta tb tc te : TE} {i j : Nat} {u : TS} {E : Ends}
/-- sorted, each once -/
def usrt (xs : List Int) : List Int := srt xs.eraseDups
theorem mem_usrt {xs : List Int} {k : Int} : k ∈ usrt xs ↔ k ∈ xs := by
  unfold usrt
  rw [(srt_perm _).mem_iff, List.mem_eraseDups]
theorem nodup_eraseDups (xs : List Int) : xs.eraseDups.Nodup := by
  generalize hn : xs.length = n
  induction n using Nat.strongRecOn generalizing xs with
  | _ n ih =>
    cases xs with
    | nil => simp
    | cons a l =>
      rw [List.eraseDups_cons]
      refine List.nodup_cons.mpr ⟨?_, ih _ ?_ _ rfl⟩
      · rw [List.mem_eraseDups, List.mem_filter]; simp
      · have := List.length_filter_le (fun b => !b == a) l
        simp only [List.length_cons] at hn
        omega
theorem pw_lt_unique : ∀ {xs ys : List Int}, xs.Pairwise (· < ·) → ys.Pairwise (· < ·) → (∀ k, k ∈ xs ↔ k ∈ ys) → xs = ys
  | [], [], _, _, _ => rfl
  | [], y :: ys, _, _, h => absurd ((h y).mpr List.mem_cons_self) (by simp)
  | x :: xs, [], _, _, h => absurd ((h x).mp List.mem_cons_self) (by simp)
  | x :: xs, y :: ys, hx, hy, h => by
    have hx' := List.pairwise_cons.mp hx
    have hy' := List.pairwise_cons.mp hy
    have e : x = y := by
      rcases List.mem_cons.mp ((h x).mp List.mem_cons_self) with e | e
      · exact e
      · rcases List.mem_cons.mp ((h y).mpr List.mem_cons_self) with e2 | e2
        · exact e2.symm
        · have := hx'.1 _ e2; have := hy'.1 _ e; omega
    subst e
    rw [pw_lt_unique hx'.2 hy'.2 fun k => ?_]
    constructor
    · intro hk
      rcases List.mem_cons.mp ((h k).mp (List.mem_cons_of_mem _ hk)) with e | e
      · have := hx'.1 _ hk; omega
      · exact e
    · intro hk
      rcases List.mem_cons.mp ((h k).mpr (List.mem_cons_of_mem _ hk)) with e | e
      · have := hy'.1 _ hk; omega
      · exact e
theorem usrt_pw (xs : List Int) : (usrt xs).Pairwise (· < ·) := by
  have h1 := srt_sorted xs.eraseDups
  have h2 : (srt xs.eraseDups).Nodup := (srt_perm _).symm.nodup (nodup_eraseDups xs)
  exact (h1.and h2).imp fun ⟨a, b⟩ => by omega
theorem usrt_eq {xs ys : List Int} (h : ys.Pairwise (· < ·)) (m : ∀ k, k ∈ ys ↔ k ∈ xs) : ys = usrt xs := pw_lt_unique h (usrt_pw xs) fun k => (m k).trans mem_usrt.symm
theorem el_sortSet {xs : List Int} (h : EvC K ta G xs G1) (hz : xs.length < 64) : EvL K (tSortSet K ta) G (usrt xs) G1 := fun B S0 S σ H F k Q q =>
  h B S0 S σ H F k _ fun v S1 H1 e1 k1 r1 => by
    obtain ⟨p, vs, h1, h2, h3⟩ := r1.at k1
    refine ⟨p, xs, h1, SqL.of (by rw [h2, h3.ints]), hz, fun ms p' hp hm hf => ?_⟩
    rw [usrt_eq hp hm]
    exact mk_list k1 hf (RepL.of_ints _) fun p vs S2 H2 e2 k2 a b c d r => q p vs S2 H2 (e1.trans e2) k2 a b c d r
end
end GL

namespace GL
open PySem PySem.Spec PyProof.Rows L2
section
variable {K : Fg} {B S0 S1 S S' : Hp} {σ : L2.St} {H H' : Hp} {F : Nat → List Addr} {G G' G1 G2 G3 : List Sl} {ta tb tc te : TE} {i j : Nat} {u : TS} {D : Ends}
/-! ### isinstance -/
class Ty (α : Type) [Py α] (n : outParam String) where
  ty : ∀ {K : Fg} {S H : Hp} {v : V} {x : α}, Same S H → Py.rep K S v x → TyX K H v (.type n)
theorem tyT {p : Addr} {vs : List V} (e : Same S H) (h : SqT K S p vs) : TyX K H (.ref p) (.type "tuple") := by
  rcases seqT e h with (h | ⟨o, h⟩) | ⟨o, its, n, h1, h2, _⟩
  · exact .base (.tup h)
  · exact .fTuple h
  · exact .kTuple h1 h2
instance : Ty Int "int" := ⟨fun _ h => by rw [show _ = V.int _ from h]; exact .base (.int _)⟩
instance : Ty Bool "bool" := ⟨fun _ h => by rw [show _ = V.bl _ from h]; exact .base (.bl _)⟩
instance : Ty Str "str" := ⟨fun _ h => by rw [show _ = V.str _ from h]; exact .base (.str _)⟩
instance {α : Type} [Py α] : Ty (List α) "list" := ⟨fun e ⟨p, vs, h1, h2, _⟩ => by rw [h1]; exact .base (.lst (e _ _ h2))⟩
instance {α : Type} [Py α] : Ty (Tp α) "tuple" := ⟨fun e ⟨p, vs, h1, h2, _⟩ => by rw [h1]; exact tyT e h2⟩
instance {α β : Type} [Py α] [Py β] : Ty (α × β) "tuple" := ⟨fun e ⟨p, a, b, h1, h2, _⟩ => by rw [h1]; exact tyT e h2⟩
instance {α β γ : Type} [Py α] [Py β] [Py γ] : Ty (T3 α β γ) "tuple" := ⟨fun e ⟨p, a, b, c, h1, h2, _⟩ => by rw [h1]; exact tyT e h2⟩
theorem ev_isi {α : Type} [Py α] {n c : String} [Ty α n] {x : α} {b : Bool} (ha : EvX K ta G x G1) (h : kitB n c = some b) : EvX K (tCB (rIsi K) (tCons ta (tCons (tC (.ty c)) tNil))) G b G1 := fun B S0 S σ H F k Q q =>
  ha B S0 S σ H F k _ fun v S1 H1 e1 k1 r1 => ⟨v, .ty c, .type n, .type c, b, rfl, .ty c, Ty.ty k1.sub r1, kit_ty h, q _ S1 H1 e1 k1 rfl⟩
theorem ev_isiC {α : Type} [Py α] {c : String} {x : List α} {b : Bool} (ha : EvC K ta G x G1) (h : kitB "list" c = some b) : EvX K (tCB (rIsi K) (tCons ta (tCons (tC (.ty c)) tNil))) G b G1 := fun B S0 S σ H F k Q q =>
  ha B S0 S σ H F k _ fun v S1 H1 e1 k1 r1 => by
    obtain ⟨p, vs, rfl, hp, _⟩ := r1.at k1
    exact ⟨_, .ty c, .type "list", .type c, b, rfl, .ty c, .base (.lst hp), kit_ty h, q _ S1 H1 e1 k1 rfl⟩
/-! len of tuples of a known shape -/
theorem ev_lenP {α β : Type} [Py α] [Py β] {x : α × β} (ha : EvX K ta G x G1) : EvX K (tCB (rLenS K) (tCons ta tNil)) G (2 : Int) G1 := fun B S0 S σ H F k Q q =>
  ha B S0 S σ H F k _ fun v S1 H1 e1 k1 r1 => by
    obtain ⟨p, a, b, rfl, hp, _⟩ := r1
    exact ⟨p, _, rfl, .inr (seqT k1.sub hp), q _ S1 H1 e1 k1 rfl⟩
theorem ev_len3 {α β γ : Type} [Py α] [Py β] [Py γ] {x : T3 α β γ} (ha : EvX K ta G x G1) : EvX K (tCB (rLenS K) (tCons ta tNil)) G (3 : Int) G1 := fun B S0 S σ H F k Q q =>
  ha B S0 S σ H F k _ fun v S1 H1 e1 k1 r1 => by
    obtain ⟨p, a, b, c, rfl, hp, _⟩ := r1
    exact ⟨p, _, rfl, .inr (seqT k1.sub hp), q _ S1 H1 e1 k1 rfl⟩
/-! ### a comprehension that turns an owned thing -/
inductive Bk (vs : List Nat) : Nat → List Sl → List Sl → List Sl → Prop
  | n {i : Nat} : Bk vs i [] [] []
  | a {i : Nat} {s o : Sl} {G' G4 G : List Sl} (h : i ∉ vs) : Bk vs (i + 1) G' G4 G → Bk vs i (s :: G') (s :: G4) (o :: G)
  | b {i : Nat} {s o : Sl} {G' G4 G : List Sl} (h : s.isOw = false) : Bk vs (i + 1) G' G4 G → Bk vs i (s :: G') (o :: G4) (s :: G)
theorem Bk.get {vs : List Nat} : ∀ {i : Nat} {Gn G4 G : List Sl}, Bk vs i Gn G4 G → ∀ (j : Nat) (sl : Sl), Gn[j]? = some sl → (i + j ∉ vs ∧ G4[j]? = some sl) ∨ (sl.isOw = false ∧ G[j]? = some sl)
  | _, _, _, _, .n, j, sl, e => by simp at e
  | i, _, _, _, .a h t, 0, sl, e => by
    simp only [List.getElem?_cons_zero, Option.some.injEq] at e
    subst e
    exact .inl ⟨h, rfl⟩
  | i, _, _, _, .b h t, 0, sl, e => by
    simp only [List.getElem?_cons_zero, Option.some.injEq] at e
    subst e
    exact .inr ⟨h, rfl⟩
  | i, _, _, _, .a h t, j + 1, sl, e => by
    have := Bk.get t j sl (by simpa using e)
    rw [show i + 1 + j = i + (j + 1) by omega] at this
    simpa using this
  | i, _, _, _, .b h t, j + 1, sl, e => by
    have := Bk.get t j sl (by simpa using e)
    rw [show i + 1 + j = i + (j + 1) by omega] at this
    simpa using this
theorem Bk.len {vs : List Nat} : ∀ {i : Nat} {Gn G4 G : List Sl}, Bk vs i Gn G4 G → Gn.length = G.length
  | _, _, _, _, .n => rfl
  | _, _, _, _, .a _ t => by rw [List.length_cons, List.length_cons, t.len]
  | _, _, _, _, .b _ t => by rw [List.length_cons, List.length_cons, t.len]
def mapX {τ α β : Type} (e : τ → α → β) (step : τ → α → τ) (xs : List α) (s0 : τ) : List β × τ := xs.foldl (fun a x => (a.1 ++ [e a.2 x], step a.2 x)) ([], s0)
theorem mapX_snd {τ α β : Type} (e : τ → α → β) (step : τ → α → τ) (xs : List α) (s0 : τ) : (mapX e step xs s0).2 = xs.foldl step s0 := by
  unfold mapX
  have : ∀ (l : List α) (a : List β) (s : τ), (l.foldl (fun (a : List β × τ) x => (a.1 ++ [e a.2 x], step a.2 x)) (a, s)).2 = l.foldl step s := by
    intro l
    induction l with
    | nil => intro a s; rfl
    | cons x l ih => intro a s; exact ih _ _
  exact this xs [] s0
theorem mapX_all {τ α β : Type} {e : τ → α → β} {step : τ → α → τ} (P : β → Prop) (h : ∀ s x, P (e s x)) (xs : List α) (s0 : τ) : ∀ y ∈ (mapX e step xs s0).1, P y := by
  unfold mapX
  have : ∀ (l : List α) (a : List β) (s : τ), (∀ y ∈ a, P y) → ∀ y ∈ (l.foldl (fun (a : List β × τ) x => (a.1 ++ [e a.2 x], step a.2 x)) (a, s)).1, P y := by
    intro l
    induction l with
    | nil => intro a s ha; exact ha
    | cons x l ih =>
      intro a s ha
      refine ih _ _ fun y hy => ?_
      rcases List.mem_append.mp hy with q | q
      · exact ha y q
      · rw [List.mem_singleton.mp q]
        exact h s x
  exact this xs [] s0 (fun y hy => by simp at hy)
theorem mapX_len {τ α β : Type} (e : τ → α → β) (step : τ → α → τ) (xs : List α) (s0 : τ) : (mapX e step xs s0).1.length = xs.length := by
  unfold mapX
  have : ∀ (l : List α) (a : List β) (s : τ), (l.foldl (fun (a : List β × τ) x => (a.1 ++ [e a.2 x], step a.2 x)) (a, s)).1.length = a.length + l.length := by
    intro l
    induction l with
    | nil => intro a s; rfl
    | cons x l ih =>
      intro a s
      rw [List.foldl_cons, ih]
      simp only [List.length_append, List.length_cons, List.length_nil]
      omega
  rw [this]
  simp
theorem mapX_inv {τ α β : Type} {e : τ → α → β} {step : τ → α → τ} (P : τ → Prop) (h : ∀ s x, P s → P (step s x)) (xs : List α) (s0 : τ) (h0 : P s0) : P (mapX e step xs s0).2 := by
  rw [mapX_snd]
  induction xs generalizing s0 with
  | nil => exact h0
  | cons x xs ih => exact ih _ (h s0 x h0)
theorem el_lcE {α β τ : Type} [Py α] [Py β] {wi : TI} {g : TG} {te : TE} {vs : List Nat} {xs : List α} (γ : τ → List Sl) (s0 : τ) (step : τ → α → τ) (e : τ → α → β) (hi : ItG K wi G xs (γ s0)) (hl : xs.length ≤ 1000000)
    (hs : ∀ x s, x ∈ xs → ∃ G2 ts, TgG K g x (wipeG (γ s) vs) G2 ts ∧ (∀ t ∈ ts, t ∈ vs) ∧ ∃ G4, EvX K te G2 (e s x) G4 ∧ Bk vs 0 (γ (step s x)) G4 (γ s)) :
    EvL K (tLc wi g tYes te vs) G (mapX e step xs s0).1 (γ (mapX e step xs s0).2) := by
  have h := el_lcX (K := K) (wi := wi) (g := g) (tt := tYes) (te := te) (vs := vs) (G := G) γ s0 step (fun _ _ => true) e hi hl fun pre x post ex s hs' => by
    obtain ⟨G2, ts, tg, hts, G4, he, bk⟩ := hs x s (by rw [← ex]; exact List.mem_append_right _ List.mem_cons_self)
    refine ⟨G2, ts, tg, hts, G2, G4, et_yes, fun _ => he, (fun h => nomatch h), fun j sl hj => ?_, bk.len⟩
    have := bk.get j sl hj
    rw [Nat.zero_add] at this
    exact this
  simp only [if_true] at h
  rw [mapX_snd]
  exact h
/-! ### a def that turns its first argument, told by a relation -/
def spR {ω α β : Type} [Own ω] [Anch ω] [PyA α] [Py β] (K : Fg) (ω' : Type := ω) (R : α → β → Prop) (pre : α → Prop) : Sp := fun vs H Q _ => ∃ (S : Hp) (v0 : V) (ws : List V) (ps : List Addr) (z : ω) (a : α), vs = v0 :: ws ∧ Same S H ∧ Own.own K S H v0 ps z ∧
  (∀ p ∈ ps, S p = none ∧ ∃ o, H p = some o) ∧ PyA.rep K S ws a ∧ pre a ∧ ∀ v S' H' (y : β) (z' : ω), R a y → Anch.fp z' = Anch.fp z → Same S S' → Same S' H' → (∀ p o, p ∉ ps → H p = some o → H' p = some o) → (∀ p o, H p = some o → S' p = S p) → (∀ p ∈ ps, ∃ o, H' p = some o) →
    Own.own K S' H' v0 ps z' → Py.rep K S' v y → Q v H'
abbrev spRS {α β : Type} [PyA α] [Py β] (K : Fg) (R : α → β → Prop) (pre : α → Prop) : Sp := spR (ω := Spr) K Spr R pre
section
variable {α β : Type} [PyA α] [Py β] {R : α → β → Prop} {pre : α → Prop} {z z1 : Spr} {a : α} {t : TA} {E : XK} {g : TG}
theorem q_rel (j : Nat) (hj : G[j]? = some (.ow z)) (ha : EvA K t G a G1) (hj1 : G1[j]? = some (.ow z1)) (hp : pre a) (k : ∀ y (z' : Spr), R a y → z'.a = z1.a → ∃ G2 ts, TgG K g y (G1.set j (.ow z')) G2 ts ∧ At K B S0 (u D) G2) :
    At K B S0 (tSeq (tAsg (tCall (spRS K R pre) [] E (tCons (tVar j) t)) g) u D) G := fun S σ H F kn => by
  obtain ⟨v0, h1, h2⟩ := kn.ow hj
  refine ⟨v0, h1, ha B S0 S σ H F kn _ fun vs S1 H1 e1 k1 r1 => ?_⟩
  show spRS K R pre (v0 :: vs ++ []) H1 _ E
  rw [List.append_nil]
  obtain ⟨v1, h3, h4⟩ := k1.ow hj1
  rw [h1] at h3
  cases h3
  refine ⟨S1, v0, vs, F j, z1, a, rfl, k1.sub, h4, fun p hp => ⟨(k1.off j p hp).1, (k1.off j p hp).2.2⟩, r1, hp, fun v S2 H2 y z' hR hfp s1 s2 hk hc hl ho r2 => ?_⟩
  have hH : ∀ p o, p ∉ F j → H1 p = some o → H2 p = some o := hk
  have k2 : Kn K B S0 S2 σ H2 F (G1.set j (.ow z')) := by
    refine ⟨k1.s0.trans s1, s2, fun p o e => ?_, fun p o e => (hc p o (k1.keep p o e)).trans (k1.clean p o e), fun i p hp => ?_, k1.dj, by rw [List.length_set]; exact k1.len, fun i s e => ?_⟩
    · exact hH p o (fun m => by rw [(k1.off j p m).2.1] at e; cases e) (k1.keep p o e)
    · obtain ⟨a1, a2, o, a3⟩ := k1.off i p hp
      refine ⟨(hc p o a3).trans a1, a2, ?_⟩
      by_cases m : p ∈ F j
      · exact hl p m
      · exact ⟨o, hH p o m a3⟩
    · rcases set_get e with ⟨rfl, rfl⟩ | ⟨ne, e⟩
      · exact ⟨v0, h1, ho⟩
      · have w := k1.sl i s e
        cases s with
        | no => exact True.intro
        | im y =>
          obtain ⟨u, b1, b2⟩ := w
          exact ⟨u, b1, Py.mono s1 b2⟩
        | ow y =>
          obtain ⟨u, b1, b2⟩ := w
          refine ⟨u, b1, Own.mono s1 (fun p hp => ?_) b2⟩
          obtain ⟨_, _, o, a3⟩ := k1.off i p hp
          rw [a3]
          exact hH p o (fun m => ne (k1.dj i j p hp m)) a3
  have ea : z'.a = z1.a := by
    have := congrArg Prod.fst hfp
    exact V.ref.inj this
  obtain ⟨G2, ts, tg, hat⟩ := k y z' hR ea
  exact tg.2 B S0 S2 σ H2 F v k2 r2 _ fun σ' k3 _ _ => hat S2 σ' H2 F k3
end
end
section
variable {P : Program} {w : World} {K : Fg} {mg : Str → Option Value} {base : Heap} {α β : Type} [Sls α] [Py β]
theorem def_spR {x : Str} {st : Stmt} {N ps : List Str} {k : Nat} {R : α → β → Prop} {pre : α → Prop} (D : Def K mg x st ps) (S : FnScope N ps (defScope st)) (hn : PyA.n α + 1 = ps.length)
    (h : ∀ (fa : Addr) (cdv : Value) (A : Around) (outer : List Env) (s : Shared) (H : Hp) (E : XK), Room k (A.deeper (envOfC x (defScope st) s.heap.objs.size fa cdv)) →
      ∃ t, PSs (cxOf CX0 P w K mg base N x (defScope st) fa cdv A outer s H E).nox (defBody st) t ∧
        ∀ (z : Spr) (a : α), pre a → ∀ (B S0 : Hp) (Q : VK), (∀ (G' : List Sl) (y : β) (z' : Spr), G'[0]? = some (.ow z') → z'.a = z.a → R a y → RT K B S0 Q y G') → At K B S0 (t { nx := fun _ H' => Q .non H', rt := Q }) (.ow z :: Sls.sls a ++ List.replicate (N.length - (PyA.n α + 1)) .no)) :
    Cal P w K mg base (k + 1) x ps (spRS K R pre) := by
  obtain ⟨fa, fd, m, Fu, b⟩ := D.ex
  refine ⟨fa, fd, m, Fu.ok S (fun vs H Q E ⟨S, v0, ws, qs, z, a, e, _, _, _, r, _⟩ => by rw [e, List.length_cons, PyA.len r]; exact hn) fun cdv A outer s H vs Q E hr ⟨S', v0, ws, qs, z, a, e, es, ho, hqs, r, hp, q⟩ => ?_, Fu.kp, b⟩
  subst e
  obtain ⟨t, h1, h2⟩ := h fa cdv A outer s H E hr
  refine ⟨t, h1, ?_⟩
  have kn := start_knM (N := N) es ho hqs r
  refine h2 z a hp _ S' Q (fun G' y z' hz ea hR S1 σ1 H1 F1 v k1 r1 => ?_) S' _ H _ kn
  obtain ⟨v1, _, o1⟩ := k1.ow hz
  have hfp : Anch.fp z' = Anch.fp z := by
    show (V.ref z'.a, [z'.a]) = (V.ref z.a, [z.a])
    rw [ea]
  have ef : (v1, F1 0) = (v0, qs) := (Anch.at_ o1).trans (by rw [hfp]; exact (Anch.at_ ho).symm)
  have ev : v1 = v0 := congrArg Prod.fst ef
  have eF : F1 0 = qs := congrArg Prod.snd ef
  rw [ev, eF] at o1
  refine q v S1 H1 y z' hR hfp k1.s0 k1.sub (fun p o m e => k1.keep p o (by rw [if_neg m]; exact e)) (fun p o e => ?_) (fun p m => ?_) o1 r1
  · by_cases m : p ∈ qs
    · rw [(k1.off 0 p (by rw [eF]; exact m)).1, (hqs p m).1]
    · exact k1.clean p o (by rw [if_neg m]; exact e)
  · exact (k1.off 0 p (by rw [eF]; exact m)).2.2
end
theorem cup_ex' {z z' : Spr} {m : Int} (e : z' = (lawCup z m).2) (h : 0 < m) : ∃ d, (lawCup z m).1 = d ∧ 0 ≤ d ∧ d < m ∧ z'.a = z.a := ⟨_, rfl, (cup_bd z h).1, (cup_bd z h).2, by rw [e]; exact cup_a z m⟩
end GL
namespace GL
open PySem PySem.Spec PyProof.Rows L2
theorem pe_cal0 {X : Cx} {j k : Nat} {x : Str} {ps : List Str} {sp : Sp} {p pos : Pos} (c : Cal X.prog X.w X.K X.mg X.base k x ps sp) (hr : Room j X.A) (hk : k ≤ j) (hg : Gl X x) (hd : (x == ("__debug__" : Str)) = false := by decide) :
    PE X (.Call (.Name x p) [] [] pos) (tCall sp [] E0 tNil) := by
  obtain ⟨f, fd, a, b, c, d⟩ := c.ex
  exact pe_call0 b (hr.mono hk) hg a c d .nil pass0 hd
end GL

namespace GL
open PySem PySem.Spec PyProof.Rows L2
section
variable {K : Fg} {B S0 S1 S S' : Hp} {σ : L2.St} {H H' : Hp} {F : Nat → List Addr} {G G' G1 G2 G3 : List Sl} {ta tb tc te : TE} {i j : Nat} {u : TS} {E : Ends}
/-! ### what may be None -/
theorem ev_isiO {α : Type} [Py α] {n c : String} [Ty α n] {x : Option α} {b b0 : Bool} (ha : EvX K ta G x G1) (h : kitB n c = some b) (h0 : kitB "NoneType" c = some b0) : EvX K (tCB (rIsi K) (tCons ta (tCons (tC (.ty c)) tNil))) G (if x.isSome then b else b0) G1 := fun B S0 S σ H F k Q q =>
  ha B S0 S σ H F k _ fun v S1 H1 e1 k1 r1 => by
    cases x with
    | none => exact ⟨v, .ty c, .type "NoneType", .type c, b0, rfl, .ty c, by rw [show v = .non from r1]; exact .base .non, kit_ty h0, q _ S1 H1 e1 k1 rfl⟩
    | some y => exact ⟨v, .ty c, .type n, .type c, b, rfl, .ty c, Ty.ty (x := y) k1.sub r1, kit_ty h, q _ S1 H1 e1 k1 rfl⟩
theorem EvX.get {α : Type} [Py α] [Inhabited α] {x : Option α} (ha : EvX K ta G x G1) (h : x.isSome = true) : EvX K ta G (x.getD default) G1 := fun B S0 S σ H F k Q q =>
  ha B S0 S σ H F k _ fun v S1 H1 e1 k1 r1 => q v S1 H1 e1 k1 (by
    cases x with
    | none => exact absurd h Bool.false_ne_true
    | some y => exact r1)
theorem nn_int : ∀ (K : Fg) (S : Hp) (v : V) (y : Int), Py.rep K S v y → v ≠ .non := fun K S v y r e => by
  have h : v = .int y := r
  rw [h] at e
  cases e
theorem nn_list {α : Type} [Py α] : ∀ (K : Fg) (S : Hp) (v : V) (y : List α), Py.rep K S v y → v ≠ .non := fun K S v y ⟨p, _, r, _⟩ e => by
  rw [r] at e
  cases e
instance : Dt Unit := ⟨fun _ => PyData.none, fun _ h => by rw [show _ = V.non from h]; exact .non, fun _ => rfl, 0, fun _ => Nat.le_refl _, fun x y => by simp [PyData.eqv]⟩
instance : Dt (Option Int) := ⟨fun x => match x with | none => PyData.none | some y => PyData.int y, fun {K S H v x} _ h => by
    cases x with
    | none => rw [show _ = V.non from h]; exact .non
    | some y => rw [show _ = V.int y from h]; exact .int _, fun x => by cases x <;> rfl, 0, fun x => by cases x <;> exact Nat.le_refl _, fun x y => by cases x <;> cases y <;> simp [PyData.eqv]⟩
/-! ### the greatest of a list -/
def maxL : List Int → Int
  | [] => 0
  | x :: xs => xs.foldl max x
theorem le_foldl_max : ∀ (xs : List Int) (a : Int), a ≤ xs.foldl max a
  | [], a => Int.le_refl a
  | x :: xs, a => Int.le_trans (Int.le_max_left a x) (le_foldl_max xs (max a x))
theorem mem_foldl_max : ∀ (xs : List Int) (a y : Int), y ∈ xs → y ≤ xs.foldl max a
  | x :: xs, a, y, h => by
    rcases List.mem_cons.mp h with e | e
    · rw [e]; exact Int.le_trans (Int.le_max_right a x) (le_foldl_max xs (max a x))
    · exact mem_foldl_max xs (max a x) y e
theorem foldl_max_mem : ∀ (xs : List Int) (a : Int), xs.foldl max a = a ∨ xs.foldl max a ∈ xs
  | [], a => .inl rfl
  | x :: xs, a => by
    rcases foldl_max_mem xs (max a x) with e | e
    · rw [List.foldl_cons, e]
      by_cases h : a ≤ x
      · rw [Int.max_eq_right h]; exact .inr List.mem_cons_self
      · rw [Int.max_eq_left (by omega)]; exact .inl rfl
    · exact .inr (List.mem_cons_of_mem _ e)
theorem maxL_mem {xs : List Int} (h : xs ≠ []) : maxL xs ∈ xs := by
  cases xs with
  | nil => exact absurd rfl h
  | cons x xs =>
    rcases foldl_max_mem xs x with e | e
    · rw [show maxL (x :: xs) = xs.foldl max x from rfl, e]; exact List.mem_cons_self
    · exact List.mem_cons_of_mem _ e
theorem le_maxL {xs : List Int} {y : Int} (h : y ∈ xs) : y ≤ maxL xs := by
  cases xs with
  | nil => exact absurd h (by simp)
  | cons x xs =>
    rcases List.mem_cons.mp h with e | e
    · rw [e]; exact le_foldl_max xs x
    · exact mem_foldl_max xs x y e
theorem maxL_eq {xs : List Int} {m : Int} (h : m ∈ xs) (g : ∀ y ∈ xs, y ≤ m) : m = maxL xs :=
  Int.le_antisymm (le_maxL h) (g _ (maxL_mem (by intro e; rw [e] at h; simp at h)))
theorem ev_maxL {xs : List Int} (h : EvC K ta G xs G1) (hx : xs ≠ []) : EvX K (tCB (rMax K) (tCons ta tNil)) G (maxL xs) G1 := fun B S0 S σ H F k Q q =>
  h B S0 S σ H F k _ fun v S1 H1 e1 k1 r1 => by
    obtain ⟨p, vs, h1, h2, h3⟩ := r1.at k1
    refine ⟨p, xs, by rw [h1], SqL.of (by rw [h2, h3.ints]), List.length_pos_iff.mpr hx, fun m hm hg => ?_⟩
    rw [maxL_eq hm hg]
    exact q _ _ _ e1 k1 rfl
end
end GL

set_option maxHeartbeats 4000000
namespace L2
open PySem PySem.Spec PyProof.Rows
/-- pairs of whole numbers, in order -/
def le2 (a b : Int × Int) : Prop := a.1 < b.1 ∨ (a.1 = b.1 ∧ a.2 ≤ b.2)
section
variable {X : Cx}
/-- sorted(xs), xs a list of pairs of whole numbers -/
def rSort2 (K : PySem.W.Frag) : List V → Hp → VK → Prop := fun vs H Q => ∃ (a : Addr) (xs : List V), vs = [V.ref a] ∧ SqL K H a xs ∧ (∀ x ∈ xs, ∃ m n : Int, TupI K H x [m, n]) ∧
  ∀ (ys : List V) (p : Addr), ys.Perm xs → ys.Pairwise (fun x y => ∀ m n m' n', TupI K H x [m, n] → TupI K H y [m', n'] → le2 (m, n) (m', n')) → H p = none → Q (.ref p) (upd H p (.lst ys))
theorem two_of {pins : List (Addr × Obj)} {σ : St} {H : Hp} {s : Shared} (I : Inv X pins σ H s) {t : Addr} {m n : Int} (h : SqT X.K H t [V.int m, V.int n]) :
    ∃ (o : Obj) (c : Nat) (u1 u2 : Tok), s.heap.get? t = some o ∧ o.cls = .type "tuple" ∧ o.data = .seq #[Value.int m u1, Value.int n u2] c := by
  obtain ⟨its, rv, hT, _⟩ := I.tuple h
  obtain ⟨o, ho, hc, c, hd⟩ := hT
  cases rv with
  | cons r1 rv =>
    cases rv with
    | cons r2 rv =>
      cases rv
      obtain ⟨u1, e1⟩ := r1
      obtain ⟨u2, e2⟩ := r2
      subst e1; subst e2
      exact ⟨o, c, u1, u2, ho, hc, hd⟩
theorem tupsOf_all {h : Heap} : ∀ {vs : List Value}, (∀ v ∈ vs, ∃ f, TupOf h (fun _ => false) v f) → ∃ fs, TupsOf h (fun _ => false) vs fs
  | [], _ => ⟨[], .nil⟩
  | v :: vs, q => by
    obtain ⟨f, hf⟩ := q v List.mem_cons_self
    obtain ⟨fs, hfs⟩ := tupsOf_all fun w hw => q w (List.mem_cons_of_mem _ hw)
    exact ⟨f :: fs, .cons hf hfs⟩
theorem cr_sort2 : CallR X (.builtin "sorted") (rSort2 X.K) := by
  intro pins s σ H vs us Q I r h
  obtain ⟨a, xs, rfl, hs, hx, q⟩ := h
  obtain ⟨its, rv, hl, hz⟩ := I.list hs
  rw [Vals.ref1 r]
  obtain ⟨e1, e2⟩ := bkV_refs rv fun x m => by
    obtain ⟨_, _, t, e, _⟩ := hx x m
    exact ⟨t, e⟩
  have hat : ∀ v ∈ its, ∃ t m n, v = .ref t ∧ SqT X.K H t [V.int m, V.int n] := fun v hv => by
    obtain ⟨t, rfl⟩ := e2 v hv
    have hm : V.ref t ∈ xs := by
      rw [e1]
      exact List.mem_map.mpr ⟨_, hv, rfl⟩
    obtain ⟨m, n, t', e, ht⟩ := hx _ hm
    cases e
    exact ⟨t, m, n, rfl, ht⟩
  have hkey : ∀ v ∈ its, ∀ t m n, v = .ref t → SqT X.K H t [V.int m, V.int n] → G.tupKeyC s.heap (fun _ => false) v = some [Sum.inl m, Sum.inl n] := fun v hv t m n e ht => by
    obtain ⟨o, c, u1, u2, ho, hc, hd⟩ := two_of I ht
    rw [e]
    exact G.tupKeyC_of ho hc hd rfl
  obtain ⟨fs, hfs⟩ := tupsOf_all (h := s.heap) (vs := its) fun v hv => by
    obtain ⟨t, m, n, rfl, ht⟩ := hat v hv
    obtain ⟨o, c, u1, u2, ho, hc, hd⟩ := two_of I ht
    exact ⟨.int m u1, t, o, _, c, rfl, ho, hc, hd, rfl, fun _ => ⟨m, u1, rfl⟩, fun z => absurd z Bool.false_ne_true⟩
  have hkk : ∀ v, v ∈ its → ∃ l, G.tupKeyC s.heap (fun _ => false) v = some l := fun v hv => by
    obtain ⟨t, m, n, e, ht⟩ := hat v hv
    exact ⟨_, hkey v hv t m n e ht⟩
  have hz' : its.length ≤ sizeLine := by rw [← rv.length]; exact hz
  refine G.sorted_tups (shape := fun _ => false) (fs := fs) hl.isList hfs hkk hz' fun st' a1 a2 a3 => ?_
  have hper : (arrOf st').toList.Perm (its.map fun v => (v, v)) := by
    have e := Array.perm_iff_toList_perm.mp a1
    rw [pairsOf_toList] at e
    refine e.trans (List.Perm.of_eq ?_)
    rw [List.zip_eq_zipWith, List.zipWith_self]
  have hp1 : (((arrOf st').map (·.2)).toList).Perm its := by
    rw [Array.toList_map]
    have := hper.map (·.2)
    rw [List.map_map] at this
    refine this.trans (List.Perm.of_eq ?_)
    exact (List.map_congr_left fun v _ => rfl).trans (List.map_id its)
  have hmem : ∀ p ∈ (arrOf st').toList, p.1 = p.2 ∧ p.2 ∈ its := fun p hp => by
    obtain ⟨v, hv, rfl⟩ := List.mem_map.mp (hper.mem_iff.mp hp)
    exact ⟨rfl, hv⟩
  have hsz : (arrOf st').size = (pairsOf its).size := by rw [← Array.length_toList, ← Array.length_toList]; exact (Array.perm_iff_toList_perm.mp a1).length_eq
  have hpw := keyLe_of_sorted (κ := G.tupKindC s.heap (fun _ => false)) (xs := arrOf st') (fun p hp => by
    obtain ⟨e, hv⟩ := hmem p hp
    rw [e]
    exact hkk _ hv) (by rw [hsz]; exact a2)
  obtain ⟨ep, he'⟩ := PyProof.Rows.sortedAll_at s.heap its ((arrOf st').map (·.2))
  have h3 : ∀ u ∈ ((arrOf st').map (·.2)).toList, ∃ a, u = Value.ref a := fun u hu => e2 u (hp1.mem_iff.mp hu)
  have hp : (((arrOf st').map (·.2)).toList.map bkV).Perm xs := by
    rw [e1]
    exact hp1.map bkV
  have hlen : (((arrOf st').map (·.2)).toList.map bkV).length ≤ sizeLine := by
    rw [hp.length_eq]
    exact hz
  refine ⟨.ref _, upd H (s.heap.objs.size + 1) (.lst (((arrOf st').map (·.2)).toList.map bkV)), I.laid (t' := s.toks) (fun _ _ => PyProof.Rows.sortedAll_old) (Nat.le_succ _) ⟨hlen, _, ep, bkV_vals h3, he'⟩, rfl, q _ _ hp ?_ (I.hok.fresh (Nat.le_succ _))⟩
  rw [Array.toList_map, List.map_map, List.pairwise_map]
  refine List.Pairwise.imp_of_mem (fun {p p'} hm hm' hle m n m' n' hn hn' => ?_) hpw
  obtain ⟨x1, x2⟩ := hmem p hm
  obtain ⟨y1, y2⟩ := hmem p' hm'
  obtain ⟨t, et, ht⟩ := hn
  obtain ⟨t', et', ht'⟩ := hn'
  have eu := bkV_ref et
  have ev := bkV_ref et'
  obtain ⟨k1, k2, hk1, hk2, hk⟩ := hle
  have z1 := hkey p.2 x2 t m n eu ht
  have z2 := hkey p'.2 y2 t' m' n' ev ht'
  rw [x1] at hk1
  rw [y1] at hk2
  have f1 : k1 = [Sum.inl m, Sum.inl n] := Option.some.inj (hk1.symm.trans z1)
  have f2 : k2 = [Sum.inl m', Sum.inl n'] := Option.some.inj (hk2.symm.trans z2)
  rw [f1, f2] at hk
  have hk' : lexLt itemOrd [Sum.inl m', Sum.inl n'] [Sum.inl m, Sum.inl n] = false := hk
  rw [lex_false] at hk'
  obtain ⟨g1, g2⟩ := hk'
  have g1' := of_decide_eq_false (show decide (m' < m) = false from g1)
  rcases g2 with g2 | g2
  · exact .inl (of_decide_eq_true (show decide (m < m') = true from g2))
  · rw [lex_false] at g2
    have g2' := of_decide_eq_false (show decide (n' < n) = false from g2.1)
    show m < m' ∨ (m = m' ∧ n ≤ n')
    omega
end
end L2
namespace GL
open PySem PySem.Spec PyProof.Rows L2
section
variable {K : Fg} {B S0 S1 S S' : Hp} {σ : L2.St} {H H' : Hp} {F : Nat → List Addr} {G G' G1 G2 G3 : List Sl} {ta tb tc te : TE} {i j : Nat} {u : TS} {E : Ends}
def le2b (a b : Int × Int) : Bool := decide (a.1 < b.1) || (decide (a.1 = b.1) && decide (a.2 ≤ b.2))
theorem le2b_iff {a b : Int × Int} : le2b a b = true ↔ le2 a b := by
  unfold le2b le2
  simp only [Bool.or_eq_true, Bool.and_eq_true, decide_eq_true_eq]
/-- sorted, of pairs -/
@[irreducible] def srt2 (xs : List (Int × Int)) : List (Int × Int) := xs.mergeSort le2b
theorem srt2_perm (xs : List (Int × Int)) : (srt2 xs).Perm xs := by unfold srt2; exact List.mergeSort_perm xs _
theorem srt2_sorted (xs : List (Int × Int)) : (srt2 xs).Pairwise le2 := by
  unfold srt2
  have h := List.pairwise_mergeSort (le := le2b) (fun a b c h1 h2 => by rw [le2b_iff] at *; unfold le2 at *; omega) (fun a b => by rw [Bool.or_eq_true, le2b_iff, le2b_iff]; unfold le2; omega) xs
  exact h.imp fun q => le2b_iff.mp q
theorem le2_anti {a b : Int × Int} (h1 : le2 a b) (h2 : le2 b a) : a = b := by
  unfold le2 at *
  exact Prod.ext (by omega) (by omega)
theorem srt2_eq {xs ys : List (Int × Int)} (p : ys.Perm xs) (s : ys.Pairwise le2) : ys = srt2 xs :=
  (p.trans (srt2_perm xs).symm).eq_of_pairwise (fun a b _ _ h1 h2 => le2_anti h1 h2) s (srt2_sorted xs)
theorem RepL.perm {α : Type} [Py α] : ∀ {vs ws : List V}, ws.Perm vs → ∀ {xs : List α}, RepL K S vs xs → ∃ ys : List α, ys.Perm xs ∧ RepL K S ws ys := by
  intro vs ws p
  induction p with
  | nil => intro xs h; exact ⟨xs, .refl _, h⟩
  | cons v p ih =>
    intro xs h
    cases xs with
    | nil => exact h.elim
    | cons x xs =>
      obtain ⟨ys, h1, h2⟩ := ih h.2
      exact ⟨x :: ys, h1.cons x, h.1, h2⟩
  | swap v w l =>
    intro xs h
    match xs, h with
    | x :: y :: xs, h => exact ⟨y :: x :: xs, .swap x y xs, h.2.1, h.1, h.2.2⟩
  | trans p1 p2 ih1 ih2 =>
    intro xs h
    obtain ⟨ys, h1, h2⟩ := ih2 h
    obtain ⟨zs, h3, h4⟩ := ih1 h2
    exact ⟨zs, h3.trans h1, h4⟩
theorem rep2 {v : V} {x : Int × Int} (e : Same S H) (h : Py.rep K S v x) : TupI K H v [x.1, x.2] := by
  obtain ⟨p, a, b, h1, h2, h3, h4⟩ := h
  have e3 : a = .int x.1 := h3
  have e4 : b = .int x.2 := h4
  subst e3; subst e4
  exact ⟨p, h1, seqT e h2⟩
theorem pw_le2 (e : Same S H) : ∀ {vs : List V} {xs : List (Int × Int)}, RepL K S vs xs → vs.Pairwise (fun x y => ∀ m n m' n', TupI K H x [m, n] → TupI K H y [m', n'] → le2 (m, n) (m', n')) → xs.Pairwise le2
  | [], [], _, _ => List.Pairwise.nil
  | v :: vs, x :: xs, h, hp => by
    have hp' := List.pairwise_cons.mp hp
    refine List.pairwise_cons.mpr ⟨fun y hy => ?_, pw_le2 e h.2 hp'.2⟩
    obtain ⟨i, hi, rfl⟩ := List.getElem_of_mem hy
    obtain ⟨w, hw, hr⟩ := h.2.get (List.getElem?_eq_getElem hi)
    exact hp'.1 w (List.mem_of_getElem? hw) _ _ _ _ (rep2 e h.1) (rep2 e hr)
theorem all_rep2 (e : Same S H) : ∀ {vs : List V} {xs : List (Int × Int)}, RepL K S vs xs → ∀ v ∈ vs, ∃ m n : Int, TupI K H v [m, n]
  | v :: vs, x :: xs, h, w, hw => by
    rcases List.mem_cons.mp hw with q | q
    · rw [q]; exact ⟨_, _, rep2 e h.1⟩
    · exact all_rep2 e h.2 w q
theorem el_sort2 {xs : List (Int × Int)} (h : EvC K ta G xs G1) : EvL K (tCB (rSort2 K) (tCons ta tNil)) G (srt2 xs) G1 := fun B S0 S σ H F k Q q =>
  h B S0 S σ H F k _ fun v S1 H1 e1 k1 r1 => by
    obtain ⟨p, vs, rfl, hp, hr⟩ := r1.at k1
    refine ⟨p, vs, rfl, SqL.of hp, all_rep2 k1.sub hr, fun ys l pm so hl => ?_⟩
    obtain ⟨zs, h1, h2⟩ := RepL.perm pm hr
    have e : zs = srt2 xs := srt2_eq h1 (pw_le2 k1.sub h2 so)
    rw [e] at h2
    exact mk_list k1 hl h2 fun p vs S2 H2 e2 k2 a b c d r => q p vs S2 H2 (e1.trans e2) k2 a b c d r
end
end GL

namespace GL
open PySem PySem.Spec PyProof.Rows L2
section
variable {K : Fg} {B S0 S1 S S' : Hp} {σ : L2.St} {H H' : Hp} {F : Nat → List Addr} {G G' G1 G2 G3 : List Sl} {ta tb tc te : TE} {i j : Nat} {u : TS} {E : Ends}
/-! ### xs.extend(ys) -/
section
variable {α : Type} [Py α]
theorem qg_ext {xs xs' ys : List α} (i : Nat) (hl : G[i]? = some (.ow xs)) (h : EvC K te G ys G1) (hl1 : G1[i]? = some (.ow xs')) (hz : xs'.length + ys.length ≤ sizeLine) (k : ∀ y, y = xs' ++ ys → At K B S0 (u E) (G1.set i (.ow y))) :
    At K B S0 (tSeq (tDrop (tBM K "list" rExtend (tVar i) (tCons te tNil))) u E) G := fun S σ H F kn => by
  obtain ⟨p, vs, h1, h2, h3, h4⟩ := own_list kn hl
  refine ⟨.ref p, h1, .inl ⟨rfl, _, SqL.of h3⟩, h B S0 S σ H F kn _ fun v S' H' e kn' r => ?_⟩
  obtain ⟨p', vs', h1', h2', h3', h4'⟩ := own_list kn' hl1
  rw [h1] at h1'
  cases h1'
  obtain ⟨q, ws, rfl, hq, hr⟩ := r.at kn'
  exact ⟨p, q, vs', ws, rfl, rfl, h3', hq, by rw [h4'.len, hr.len]; exact hz, k _ rfl S' σ _ F (own_listUpd kn' h1 h2' (h4'.app hr))⟩
end
/-! ### one of two kinds -/
section
variable {α β γ δ : Type} [Py α] [Py β] [Py γ] [Py δ]
def lG [Inhabited α] : Sum α β → α
  | .inl y => y
  | .inr _ => default
def rG [Inhabited β] : Sum α β → β
  | .inl _ => default
  | .inr y => y
theorem EvX.lG [Inhabited α] {x : Sum α β} (ha : EvX K ta G x G1) (h : x.isLeft = true) : EvX K ta G (GL.lG x) G1 := by
  cases x with
  | inl y => exact ha
  | inr y => exact absurd h Bool.false_ne_true
theorem EvX.rG [Inhabited β] {x : Sum α β} (ha : EvX K ta G x G1) (h : x.isRight = true) : EvX K ta G (GL.rG x) G1 := by
  cases x with
  | inl y => exact absurd h Bool.false_ne_true
  | inr y => exact ha
def sm0 : Sum (T3 α β γ) (α × δ) → α
  | .inl y => y.a
  | .inr y => y.1
def sm1 : Sum (T3 α β γ) (α × δ) → Sum β δ
  | .inl y => .inl y.b
  | .inr y => .inr y.2
def smL : Sum (T3 α β γ) (α × δ) → Sum γ δ
  | .inl y => .inl y.c
  | .inr y => .inr y.2
theorem ev_sm0 {x : Sum (T3 α β γ) (α × δ)} (ha : EvX K ta G x G1) : EvX K (tOp (rIxT K) ta (tC (.int 0))) G (sm0 x) G1 := by
  cases x with
  | inl y => exact ev_3a (w := y) ha
  | inr y => exact ev_fst (xy := y) ha
theorem ev_sm1 {x : Sum (T3 α β γ) (α × δ)} (ha : EvX K ta G x G1) : EvX K (tOp (rIxT K) ta (tC (.int 1))) G (sm1 x) G1 := by
  cases x with
  | inl y => exact EvX.inl (ev_3b (w := y) ha)
  | inr y => exact EvX.inr (ev_snd (xy := y) ha)
theorem ev_lenSm {x : Sum (T3 α β γ) (α × δ)} (ha : EvX K ta G x G1) : EvX K (tCB (rLenS K) (tCons ta tNil)) G (if x.isLeft = true then (3 : Int) else 2) G1 := by
  cases x with
  | inl y => exact ev_len3 (x := y) ha
  | inr y => exact ev_lenP (x := y) ha
instance {n : String} [h : Ty α n] [Ty β n] : Ty (Sum α β) n := ⟨fun {K S H v x} e r => by
  cases x with
  | inl y => exact Ty.ty (x := y) e r
  | inr y => exact Ty.ty (x := y) e r⟩
/-- t[:2] of a tuple of three -/
theorem ev_sl2 {x : T3 α β γ} (ha : EvX K ta G x G) : EvX K (tSl (rSlA K) ta tNoPart (tPart (tC (.int 2)))) G ((x.a, x.b) : α × β) G := fun B S0 S σ H F k Q q =>
  ha B S0 S σ H F k _ fun v S1 H1 e1 k1 r1 => by
    obtain ⟨p, a, b, c, rfl, hp, h1, h2, h3⟩ := r1
    refine ⟨2, rfl, p, _, rfl, seqT k1.sub hp, fun hw => absurd (show HT.sIx 3 3 (some 2) = 3 from hw.2) (by decide), fun _ l hl => ?_⟩
    exact q _ _ _ (e1.trans (same_new (k1.free hl).1)) (k1.new hl) ⟨l, a, b, rfl, .inl (.inl (by simp [upd]; rfl)), Py.mono (same_new (k1.free hl).1) h1, Py.mono (same_new (k1.free hl).1) h2⟩
end
end
end GL

namespace GL
open PySem PySem.Spec PyProof.Rows L2
section
variable {K : Fg} {B S0 S1 S S' : Hp} {σ : L2.St} {H H' : Hp} {F : Nat → List Addr} {G G' G1 G2 G3 : List Sl} {ta tb tc te : TE} {i j : Nat} {u : TS} {E : Ends}
variable {α β γ δ : Type} [Py α] [Py β] [Py γ] [Py δ]
/-- data that hold texts: each text is to be a plain one -/
class Dq (α : Type) [Py α] where
  dat : α → PyData
  ok : α → Prop
  dp : ∀ {K : Fg} {S H : Hp} {v : V} {x : α}, Same S H → Py.rep K S v x → Dp K H v (dat x)
  lay : ∀ x : α, ok x → (dat x).canLay0 = true
  dep : Nat
  dle : ∀ x : α, (dat x).depth ≤ dep
  eq : ∀ x y : α, (PyData.eqv (dat x) (dat y) = true) ↔ x = y
instance (priority := low) [Dt α] : Dq α := ⟨Dt.dat, fun _ => True, Dt.dp, fun x _ => Dt.lay x, Dt.dep α, Dt.dle, Dt.eq⟩
instance : Dq Str := ⟨PyData.str, fun x => (PyData.str x).canLay0 = true, fun _ h => by rw [show _ = V.str _ from h]; exact .str _, fun x h => h, 0, fun _ => Nat.le_refl _, fun x y => by simp [PyData.eqv]⟩
theorem dqAll [Dq α] (e : Same S H) : ∀ {vs : List V} {xs : List α}, RepL K S vs xs → DpAll K H vs (xs.map Dq.dat)
  | [], [], _ => .nil
  | _ :: _, _ :: _, h => .cons (Dq.dp e h.1) (dqAll e h.2)
  | [], _ :: _, h => h.elim
  | _ :: _, [], h => h.elim
theorem lqAll [Dq α] : ∀ xs : List α, (∀ x ∈ xs, Dq.ok x) → PyData.canLayAll0 (xs.map Dq.dat) = true
  | [], _ => rfl
  | x :: xs, h => by rw [List.map_cons, PyData.canLayAll0, Dq.lay x (h x List.mem_cons_self), lqAll xs fun y hy => h y (List.mem_cons_of_mem _ hy)]; rfl
theorem pqAll [Dq α] : ∀ xs : List α, PyData.depthAll (xs.map Dq.dat) ≤ Dq.dep α
  | [] => by rw [List.map_nil, PyData.depthAll]; exact Nat.zero_le _
  | x :: xs => by
    rw [List.map_cons, PyData.depthAll]
    have h1 := Dq.dle x
    have h2 := pqAll xs
    omega
theorem eqqAll [Dq α] : ∀ xs ys : List α, (PyData.eqvAll (xs.map Dq.dat) (ys.map Dq.dat) = true) ↔ xs = ys
  | [], [] => by simp [PyData.eqvAll]
  | [], _ :: _ => by simp [PyData.eqvAll]
  | _ :: _, [] => by simp [PyData.eqvAll]
  | x :: xs, y :: ys => by
    rw [List.map_cons, List.map_cons, PyData.eqvAll, Bool.and_eq_true, Dq.eq, eqqAll xs ys, List.cons.injEq]
instance (priority := 500) [Dq α] : Dq (List α) := ⟨fun xs => .list (xs.map Dq.dat), fun xs => ∀ x ∈ xs, Dq.ok x, fun e ⟨p, vs, h1, h2, h3⟩ => by rw [h1]; exact .lst (SqL.of (e _ _ h2)) (dqAll e h3), fun xs h => by rw [PyData.canLay0]; exact lqAll xs h, Dq.dep α + 1,
  fun xs => by rw [PyData.depth]; exact Nat.succ_le_succ (pqAll xs), fun xs ys => by rw [PyData.eqv]; exact eqqAll xs ys⟩
instance (priority := 500) [Dq α] [Dq β] : Dq (α × β) := ⟨fun x => .tuple [Dq.dat x.1, Dq.dat x.2], fun x => Dq.ok x.1 ∧ Dq.ok x.2, fun e ⟨p, a, b, h1, h2, h3, h4⟩ => by rw [h1]; exact .tup (seqT e h2) (.cons (Dq.dp e h3) (.cons (Dq.dp e h4) .nil)),
  fun x h => by simp [PyData.canLay0, PyData.canLayAll0, Dq.lay _ h.1, Dq.lay _ h.2], max (Dq.dep α) (Dq.dep β) + 1, fun x => by
    have h1 := Dq.dle x.1
    have h2 := Dq.dle x.2
    simp only [PyData.depth, PyData.depthAll]
    omega, fun x y => by
    simp only [PyData.eqv, PyData.eqvAll, Bool.and_eq_true, Dq.eq, and_true]
    exact ⟨fun h => Prod.ext h.1 h.2, fun h => by rw [h]; exact ⟨rfl, rfl⟩⟩⟩
instance (priority := 500) [Dq α] [Dq β] [Dq γ] : Dq (T3 α β γ) := ⟨fun x => .tuple [Dq.dat x.a, Dq.dat x.b, Dq.dat x.c], fun x => Dq.ok x.a ∧ Dq.ok x.b ∧ Dq.ok x.c, fun e ⟨p, a, b, c, h1, h2, h3, h4, h5⟩ => by rw [h1]; exact .tup (seqT e h2) (.cons (Dq.dp e h3) (.cons (Dq.dp e h4) (.cons (Dq.dp e h5) .nil))),
  fun x h => by simp [PyData.canLay0, PyData.canLayAll0, Dq.lay _ h.1, Dq.lay _ h.2.1, Dq.lay _ h.2.2], max (Dq.dep α) (max (Dq.dep β) (Dq.dep γ)) + 1, fun x => by
    have h1 := Dq.dle x.a
    have h2 := Dq.dle x.b
    have h3 := Dq.dle x.c
    simp only [PyData.depth, PyData.depthAll]
    omega, fun x y => by
    simp only [PyData.eqv, PyData.eqvAll, Bool.and_eq_true, Dq.eq, and_true]
    cases x; cases y
    simp⟩
theorem shapedQ [Dq α] (h : Dq.dep α ≤ 64) (x : α) (hx : Dq.ok x) : SeqAt.shaped (Dq.dat x) = true := by
  unfold SeqAt.shaped
  rw [Dq.lay x hx, decide_eq_true (Nat.le_trans (Dq.dle x) h)]
  rfl
theorem eqvQ [Dq α] [DecidableEq α] (x y : α) : PyData.eqv (Dq.dat x) (Dq.dat y) = decide (x = y) := by
  by_cases e : x = y
  · rw [decide_eq_true e]
    exact (Dq.eq x y).mpr e
  · rw [decide_eq_false e]
    exact Bool.eq_false_iff.mpr fun h => e ((Dq.eq x y).mp h)
theorem ev_eqQ [Dq α] [DecidableEq α] {x y : α} (ha : EvX K ta G x G1) (hb : EvX K tb G1 y G2) (h : Dq.dep α ≤ 64) (hx : Dq.ok x) (hy : Dq.ok y) : EvX K (tOp (rEqD K) ta tb) G (decide (x = y)) G2 := fun B S0 S σ H F k Q q =>
  ha B S0 S σ H F k _ fun v S1 H1 e1 k1 r1 => hb B S0 S1 σ H1 F k1 _ fun w S2 H2 e2 k2 r2 =>
    ⟨_, _, Dq.dp k2.sub (Py.mono e2 r1), Dq.dp k2.sub r2, shapedQ h x hx, shapedQ h y hy, q _ S2 H2 (e1.trans e2) k2 (by rw [eqvQ]; rfl)⟩
theorem ev_neQ [Dq α] [DecidableEq α] {x y : α} (ha : EvX K ta G x G1) (hb : EvX K tb G1 y G2) (h : Dq.dep α ≤ 64) (hx : Dq.ok x) (hy : Dq.ok y) : EvX K (tOp (rNeD K) ta tb) G (!decide (x = y)) G2 := fun B S0 S σ H F k Q q =>
  ha B S0 S σ H F k _ fun v S1 H1 e1 k1 r1 => hb B S0 S1 σ H1 F k1 _ fun w S2 H2 e2 k2 r2 =>
    ⟨_, _, Dq.dp k2.sub (Py.mono e2 r1), Dq.dp k2.sub r2, shapedQ h x hx, shapedQ h y hy, q _ S2 H2 (e1.trans e2) k2 (by rw [eqvQ]; rfl)⟩
end
end GL

/-! is True, is False; xs[::-1]; the ways of an if that meet in a state told by a word -/
namespace GL
open PySem PySem.Spec PyProof.Rows L2
section
variable {K : Fg} {B S0 S1 S S' : Hp} {σ : L2.St} {H H' : Hp} {F : Nat → List Addr} {G G' G1 G2 G3 : List Sl} {ta tb tc te : TE} {i j : Nat} {t u : TS} {E : Ends}
theorem ev_isB {a b : Bool} (ha : EvX K ta G a G1) (hb : EvX K tb G1 b G2) : EvX K (tOp rIsB ta tb) G (decide (a = b)) G2 := fun B S0 S σ H F k Q q =>
  ha B S0 S σ H F k _ fun v S1 H1 e1 k1 r1 => hb B S0 S1 σ H1 F k1 _ fun w S2 H2 e2 k2 r2 => ⟨a, b, r1, r2, q _ S2 H2 (e1.trans e2) k2 rfl⟩
theorem ev_nisB {a b : Bool} (ha : EvX K ta G a G1) (hb : EvX K tb G1 b G2) : EvX K (tOp rNotB ta tb) G (!decide (a = b)) G2 := fun B S0 S σ H F k Q q =>
  ha B S0 S σ H F k _ fun v S1 H1 e1 k1 r1 => hb B S0 S1 σ H1 F k1 _ fun w S2 H2 e2 k2 r2 => ⟨a, b, r1, r2, q _ S2 H2 (e1.trans e2) k2 rfl⟩
theorem el_revL {α : Type} [Py α] {xs : List α} (h : EvC K ta G xs G1) : EvL K (tRevL K ta) G xs.reverse G1 := fun B S0 S σ H F k Q q =>
  h B S0 S σ H F k _ fun v S1 H1 e1 k1 r1 => by
    obtain ⟨p, vs, rfl, hp, hr⟩ := r1.at k1
    exact ⟨p, vs, rfl, SqL.of hp, fun l hl => mk_list k1 hl hr.rev fun p vs S2 H2 e2 k2 a b c d r => q p vs S2 H2 (e1.trans e2) k2 a b c d r⟩
theorem el_catX {α : Type} [Py α] {xs ys : List α} (ha : EvX K ta G xs G1) (hb : EvX K tb G1 ys G2) (hz : xs.length + ys.length ≤ sizeLine) : EvL K (tOp rCat ta tb) G (xs ++ ys) G2 := fun B S0 S σ H F k Q q =>
  ha B S0 S σ H F k _ fun v S1 H1 e1 k1 r1 => hb B S0 S1 σ H1 F k1 _ fun w S2 H2 e2 k2 r2 => by
    obtain ⟨p, vs, rfl, hp, hr⟩ := Py.mono e2 r1
    obtain ⟨p', vs', rfl, hp', hr'⟩ := r2
    exact ⟨p, p', vs, vs', rfl, rfl, k2.sub _ _ hp, k2.sub _ _ hp', by rw [hr.len, hr'.len]; exact hz, fun l hl => mk_list k2 hl (hr.app hr') fun p vs S3 H3 e3 k3 a b c d r => q p vs S3 H3 ((e1.trans e2).trans e3) k3 a b c d r⟩
/-! and, or whose parts turn an owned thing -/
theorem set_same {i : Nat} {s : Sl} (h : G[i]? = some s) : G.set i s = G := by
  apply List.ext_getElem?
  intro j
  by_cases q : i = j
  · subst q
    rw [List.getElem?_set_self (List.getElem?_eq_some_iff.mp h).1, h]
  · rw [List.getElem?_set_ne q]
section
variable {tt uu : TT} {b c : Bool} {ω : Type} [Own ω] {z z' : ω}
theorem et_andG (h1 : EvT K tt G b G1) (h2 : b = true → EvT K uu G1 c G1) : EvT K (tAnd tt uu) G (b && c) G1 := fun B S0 S σ H F k Q q => h1 B S0 S σ H F k _ fun S1 H1 e1 k1 => by
  cases b with
  | true => exact h2 rfl B S0 S1 σ H1 F k1 Q fun S2 H2 e2 k2 => q S2 H2 (e1.trans e2) k2
  | false => exact q S1 H1 e1 k1
theorem et_orG (h1 : EvT K tt G b G1) (h2 : b = false → EvT K uu G1 c G1) : EvT K (tOr tt uu) G (b || c) G1 := fun B S0 S σ H F k Q q => h1 B S0 S σ H F k _ fun S1 H1 e1 k1 => by
  cases b with
  | false => exact h2 rfl B S0 S1 σ H1 F k1 Q fun S2 H2 e2 k2 => q S2 H2 (e1.trans e2) k2
  | true => exact q S1 H1 e1 k1
theorem et_andM (i : Nat) (h1 : EvT K tt G b G1) (hi : G1[i]? = some (.ow z)) (h2 : b = true → EvT K uu G1 c (G1.set i (.ow z'))) : EvT K (tAnd tt uu) G (b && c) (G1.set i (.ow (if b = true then z' else z))) := fun B S0 S σ H F k Q q => h1 B S0 S σ H F k _ fun S1 H1 e1 k1 => by
  cases b with
  | true => exact h2 rfl B S0 S1 σ H1 F k1 Q fun S2 H2 e2 k2 => q S2 H2 (e1.trans e2) k2
  | false => exact q S1 H1 e1 (by rw [if_neg Bool.false_ne_true, set_same hi]; exact k1)
theorem et_orM (i : Nat) (h1 : EvT K tt G b G1) (hi : G1[i]? = some (.ow z)) (h2 : b = false → EvT K uu G1 c (G1.set i (.ow z'))) : EvT K (tOr tt uu) G (b || c) (G1.set i (.ow (if b = true then z else z'))) := fun B S0 S σ H F k Q q => h1 B S0 S σ H F k _ fun S1 H1 e1 k1 => by
  cases b with
  | false => exact h2 rfl B S0 S1 σ H1 F k1 Q fun S2 H2 e2 k2 => q S2 H2 (e1.trans e2) k2
  | true => exact q S1 H1 e1 (by rw [if_pos rfl, set_same hi]; exact k1)
theorem ev_andVG (h1 : EvX K ta G b G1) (h2 : b = true → EvX K tb G1 c G1) : EvX K (tAndV ta tb) G (b && c) G1 := fun B S0 S σ H F k Q q => h1 B S0 S σ H F k _ fun v S1 H1 e1 k1 r1 => ⟨b, r1, by
  cases b with
  | true => exact h2 rfl B S0 S1 σ H1 F k1 Q fun w S2 H2 e2 k2 r2 => q w S2 H2 (e1.trans e2) k2 r2
  | false => exact q _ S1 H1 e1 k1 rfl⟩
theorem ev_andVM (i : Nat) (h1 : EvX K ta G b G1) (hi : G1[i]? = some (.ow z)) (h2 : b = true → EvX K tb G1 c (G1.set i (.ow z'))) : EvX K (tAndV ta tb) G (b && c) (G1.set i (.ow (if b = true then z' else z))) := fun B S0 S σ H F k Q q => h1 B S0 S σ H F k _ fun v S1 H1 e1 k1 r1 => ⟨b, r1, by
  cases b with
  | true => exact h2 rfl B S0 S1 σ H1 F k1 Q fun w S2 H2 e2 k2 r2 => q w S2 H2 (e1.trans e2) k2 r2
  | false => exact q _ S1 H1 e1 (by rw [if_neg Bool.false_ne_true, set_same hi]; exact k1) rfl⟩
theorem ev_orVG (h1 : EvX K ta G b G1) (h2 : b = false → EvX K tb G1 c G1) : EvX K (tOrV ta tb) G (b || c) G1 := fun B S0 S σ H F k Q q => h1 B S0 S σ H F k _ fun v S1 H1 e1 k1 r1 => ⟨b, r1, by
  cases b with
  | false => exact h2 rfl B S0 S1 σ H1 F k1 Q fun w S2 H2 e2 k2 r2 => q w S2 H2 (e1.trans e2) k2 r2
  | true => exact q _ S1 H1 e1 k1 rfl⟩
end
theorem q_cutI {τ : Type} (γ : τ → List Sl) (I : τ → Prop) (h : At K B S0 (t { E with nx := Mid K B S0 (fun G' => ∃ s, G' = γ s ∧ I s) }) G) (k : ∀ s, I s → At K B S0 (u E) (γ s)) : At K B S0 (Evl.tCut t u E) G :=
  q_cut _ h fun G' ⟨s, e, p⟩ => by rw [e]; exact k s p
end
end GL

/-! Results whose lists are new: values told with a heap in which their lists did not stand. -/
namespace GL
open PySem PySem.Spec PyProof.Rows L2
/-- data with a word that its outer list is not in the heap D -/
class PyF (α : Type) [Py α] where
  repF : Fg → Hp → Hp → V → α → Prop
  un : ∀ {K : Fg} {D S : Hp} {v : V} {x : α}, repF K D S v x → Py.rep K S v x
  mono : ∀ {K : Fg} {D S S' : Hp} {v : V} {x : α}, Same S S' → repF K D S v x → repF K D S' v x
  anti : ∀ {K : Fg} {D D' S : Hp} {v : V} {x : α}, Same D' D → repF K D S v x → repF K D' S v x
/-- kinds without such a list -/
class PyT (α : Type) [Py α] [PyF α] : Prop where
  of : ∀ {K : Fg} {D S : Hp} {v : V} {x : α}, Py.rep K S v x → PyF.repF K D S v x
structure Fx (α : Type) where
  D : Hp
  x : α
@[reducible] def trivF (α : Type) [Py α] : PyF α := ⟨fun K _ S v x => Py.rep K S v x, fun h => h, fun e h => Py.mono e h, fun _ h => h⟩
instance : PyF Int := trivF Int
instance : PyF Bool := trivF Bool
instance : PyF Str := trivF Str
instance : PyF Unit := trivF Unit
instance {α : Type} [Py α] : PyF (Tp α) := trivF (Tp α)
instance : PyF (Option Int) := trivF (Option Int)
instance : PyT Int := ⟨fun h => h⟩
instance : PyT Bool := ⟨fun h => h⟩
instance : PyT Str := ⟨fun h => h⟩
instance : PyT Unit := ⟨fun h => h⟩
instance {α : Type} [Py α] : PyT (Tp α) := ⟨fun h => h⟩
instance : PyT (Option Int) := ⟨fun h => h⟩
section
variable {α β γ : Type} [Py α] [Py β] [Py γ]
instance : PyF (List α) := ⟨fun K D S v x => Py.rep K S v x ∧ ∃ p, v = .ref p ∧ D p = none, fun h => h.1, fun e h => ⟨Py.mono e h.1, h.2⟩, fun e ⟨h, p, h1, h2⟩ => ⟨h, p, h1, e.free h2⟩⟩
instance [PyF α] [PyF β] : PyF (α × β) := ⟨fun K D S v x => ∃ p a b, v = .ref p ∧ SqT K S p [a, b] ∧ PyF.repF K D S a x.1 ∧ PyF.repF K D S b x.2,
  fun ⟨p, a, b, h1, h2, h3, h4⟩ => ⟨p, a, b, h1, h2, PyF.un h3, PyF.un h4⟩, fun e ⟨p, a, b, h1, h2, h3, h4⟩ => ⟨p, a, b, h1, seqT e h2, PyF.mono e h3, PyF.mono e h4⟩, fun e ⟨p, a, b, h1, h2, h3, h4⟩ => ⟨p, a, b, h1, h2, PyF.anti e h3, PyF.anti e h4⟩⟩
instance [PyF α] [PyF β] [PyF γ] : PyF (T3 α β γ) := ⟨fun K D S v x => ∃ p a b c, v = .ref p ∧ SqT K S p [a, b, c] ∧ PyF.repF K D S a x.a ∧ PyF.repF K D S b x.b ∧ PyF.repF K D S c x.c,
  fun ⟨p, a, b, c, h1, h2, h3, h4, h5⟩ => ⟨p, a, b, c, h1, h2, PyF.un h3, PyF.un h4, PyF.un h5⟩, fun e ⟨p, a, b, c, h1, h2, h3, h4, h5⟩ => ⟨p, a, b, c, h1, seqT e h2, PyF.mono e h3, PyF.mono e h4, PyF.mono e h5⟩,
  fun e ⟨p, a, b, c, h1, h2, h3, h4, h5⟩ => ⟨p, a, b, c, h1, h2, PyF.anti e h3, PyF.anti e h4, PyF.anti e h5⟩⟩
instance [PyF α] [PyF β] : PyF (Sum α β) := ⟨fun K D S v x => match x with | .inl y => PyF.repF K D S v y | .inr y => PyF.repF K D S v y,
  fun {K D S v x} h => by cases x with | inl y => exact PyF.un (α := α) h | inr y => exact PyF.un (α := β) h, fun {K D S S' v x} e h => by cases x with | inl y => exact PyF.mono (α := α) e h | inr y => exact PyF.mono (α := β) e h,
  fun {K D D' S v x} e h => by cases x with | inl y => exact PyF.anti (α := α) e h | inr y => exact PyF.anti (α := β) e h⟩
instance [PyF α] : Py (Fx α) := ⟨fun K S v y => PyF.repF K y.D S v y.x, fun e h => PyF.mono e h⟩
end
section
variable {K : Fg} {B S0 S1 S S' D : Hp} {σ : L2.St} {H H' : Hp} {F : Nat → List Addr} {G G' G1 G2 G3 : List Sl} {ta tb tc te : TE} {i j : Nat} {t u : TS} {E : Ends}
section
variable {α β γ : Type} [Py α] [Py β] [Py γ] [PyF α] [PyF β] [PyF γ] {x : α} {y : β} {z : γ}
/-- the word forgotten -/
theorem EvX.unF {w : Fx α} (h : EvX K te G w G1) : EvX K te G w.x G1 := fun B S0 S σ H F k Q q => h B S0 S σ H F k Q fun v S' H' e k' r => q v S' H' e k' (PyF.un r)
theorem EvX.toF {δ : Type} [Py δ] [PyF δ] [PyT δ] {x : δ} (D : Hp) (h : EvX K te G x G1) : EvX K te G (Fx.mk D x) G1 := fun B S0 S σ H F k Q q => h B S0 S σ H F k Q fun v S' H' e k' r => q v S' H' e k' (PyT.of r)
theorem ev_fstF {w : Fx (α × β)} (ha : EvX K ta G w G1) : EvX K (tOp (rIxT K) ta (tC (.int 0))) G (Fx.mk w.D w.x.1) G1 := fun B S0 S σ H F k Q q =>
  ha B S0 S σ H F k _ fun v S1 H1 e1 k1 r1 => by
    obtain ⟨p, a, b, rfl, hp, h1, h2⟩ := r1
    exact ⟨p, _, 0, a, rfl, rfl, seqT k1.sub hp, atI_nat (j := 0) rfl, q a S1 H1 e1 k1 h1⟩
theorem ev_sndF {w : Fx (α × β)} (ha : EvX K ta G w G1) : EvX K (tOp (rIxT K) ta (tC (.int 1))) G (Fx.mk w.D w.x.2) G1 := fun B S0 S σ H F k Q q =>
  ha B S0 S σ H F k _ fun v S1 H1 e1 k1 r1 => by
    obtain ⟨p, a, b, rfl, hp, h1, h2⟩ := r1
    exact ⟨p, _, 1, b, rfl, rfl, seqT k1.sub hp, atI_nat (j := 1) rfl, q b S1 H1 e1 k1 h2⟩
theorem ev_3aF {w : Fx (T3 α β γ)} (ha : EvX K ta G w G1) : EvX K (tOp (rIxT K) ta (tC (.int 0))) G (Fx.mk w.D w.x.a) G1 := fun B S0 S σ H F k Q q =>
  ha B S0 S σ H F k _ fun v S1 H1 e1 k1 r1 => by
    obtain ⟨p, a, b, c, rfl, hp, h1, h2, h3⟩ := r1
    exact ⟨p, _, 0, a, rfl, rfl, seqT k1.sub hp, atI_nat (j := 0) rfl, q a S1 H1 e1 k1 h1⟩
theorem ev_3cF {w : Fx (T3 α β γ)} (ha : EvX K ta G w G1) : EvX K (tOp (rIxT K) ta (tC (.int 2))) G (Fx.mk w.D w.x.c) G1 := fun B S0 S σ H F k Q q =>
  ha B S0 S σ H F k _ fun v S1 H1 e1 k1 r1 => by
    obtain ⟨p, a, b, c, rfl, hp, h1, h2, h3⟩ := r1
    exact ⟨p, _, 2, c, rfl, rfl, seqT k1.sub hp, atI_nat (j := 2) rfl, q c S1 H1 e1 k1 h3⟩
theorem EvX.lF [Inhabited α] {w : Fx (Sum α β)} (ha : EvX K ta G w G1) (h : w.x.isLeft = true) : EvX K ta G (Fx.mk w.D (GL.lG w.x)) G1 := by
  obtain ⟨D, x⟩ := w
  cases x with
  | inl y => exact fun B S0 S σ H F k Q q => ha B S0 S σ H F k Q fun v S' H' e k' r => q v S' H' e k' r
  | inr y => cases h
theorem EvX.rF [Inhabited β] {w : Fx (Sum α β)} (ha : EvX K ta G w G1) (h : w.x.isRight = true) : EvX K ta G (Fx.mk w.D (GL.rG w.x)) G1 := by
  obtain ⟨D, x⟩ := w
  cases x with
  | inr y => exact fun B S0 S σ H F k Q q => ha B S0 S σ H F k Q fun v S' H' e k' r => q v S' H' e k' r
  | inl y => cases h
/-- tuples made of such -/
theorem ev_pairF (ha : EvX K ta G (Fx.mk D x) G1) (hb : EvX K tb G1 (Fx.mk D y) G2) : EvX K (tTup (tCons ta (tCons tb tNil))) G (Fx.mk D ((x, y) : α × β)) G2 := fun B S0 S σ H F k Q q =>
  ha B S0 S σ H F k _ fun v S1 H1 e1 k1 r1 => hb B S0 S1 σ H1 F k1 _ fun u S2 H2 e2 k2 r2 => ⟨by show 2 ≤ sizeLine; decide, fun p hp => by
    have e3 := same_new (o := .tup [v, u]) (k2.free hp).1
    exact q (.ref p) _ _ ((e1.trans e2).trans e3) (k2.new hp) ⟨p, v, u, rfl, SqT.of upd_same, PyF.mono (e2.trans e3) r1, PyF.mono e3 r2⟩⟩
theorem ev_t3F (ha : EvX K ta G (Fx.mk D x) G1) (hb : EvX K tb G1 (Fx.mk D y) G2) (hc : EvX K tc G2 (Fx.mk D z) G3) : EvX K (tTup (tCons ta (tCons tb (tCons tc tNil)))) G (Fx.mk D (T3.mk x y z)) G3 := fun B S0 S σ H F k Q q =>
  ha B S0 S σ H F k _ fun v S1 H1 e1 k1 r1 => hb B S0 S1 σ H1 F k1 _ fun u S2 H2 e2 k2 r2 => hc B S0 S2 σ H2 F k2 _ fun w S3 H3 e3 k3 r3 => ⟨by show 3 ≤ sizeLine; decide, fun p hp => by
    have e4 := same_new (o := .tup [v, u, w]) (k3.free hp).1
    exact q (.ref p) _ _ (((e1.trans e2).trans e3).trans e4) (k3.new hp) ⟨p, v, u, w, rfl, SqT.of upd_same, PyF.mono ((e2.trans e3).trans e4) r1, PyF.mono (e3.trans e4) r2, PyF.mono e4 r3⟩⟩
theorem EvX.inlF (h : EvX K te G (Fx.mk D x) G1) : EvX K te G (Fx.mk D (Sum.inl x : Sum α β)) G1 := fun B S0 S σ H F k Q q => h B S0 S σ H F k Q fun v S' H' e k' r => q v S' H' e k' r
theorem EvX.inrF (h : EvX K te G (Fx.mk D y) G1) : EvX K te G (Fx.mk D (Sum.inr y : Sum α β)) G1 := fun B S0 S σ H F k Q q => h B S0 S σ H F k Q fun v S' H' e k' r => q v S' H' e k' r
/-- a list of one's own is given away; it was not in the frame's heap -/
theorem at_relF {δ : Type} [Py δ] {x : List δ} {i : Nat} {P : L2.St → Hp → Prop} (h : G[i]? = some (.ow x)) (q : At K B S0 P (G.set i (.im (Fx.mk B x)))) : At K B S0 P G := fun S σ H F k => by
  obtain ⟨S', e, k'⟩ := k.relL h
  obtain ⟨v, hv, p, vs, rfl, hp, h1, h2⟩ := k.ow h
  obtain ⟨hs, hb, _⟩ := k.off i p (by rw [hp]; exact List.mem_singleton.mpr rfl)
  refine q S' σ H (upF F i []) ?_
  have hl : i < G.length := (List.getElem?_eq_some_iff.mp h).1
  obtain ⟨w, hw, rw_⟩ := k'.im (x := x) (i := i) (List.getElem?_set_self hl)
  rw [hv] at hw
  cases hw
  have k3 := k'.set (i := i) (v := .ref p) (x := Fx.mk B x) ⟨rw_, p, rfl, hb⟩ (by rw [List.getElem?_set_self hl]; rfl)
  have e1 : σ.set i (some (.ref p)) = σ := by
    apply List.ext_getElem?
    intro j
    by_cases e : i = j
    · subst e
      rw [List.getElem?_set_self (by rw [← k.len]; exact hl)]
      exact hv.symm
    · rw [List.getElem?_set_ne e]
  rw [e1, List.set_set] at k3
  exact k3
/-- return of a new list, and of a pair with a new list -/
theorem q_retLF {δ : Type} [Py δ] {xs : List δ} (h : EvL K te G xs G1) (k : RT K B S0 E.rt (Fx.mk B xs) G1) : At K B S0 (tSeq (tRet te) u E) G := fun S σ H F kn =>
  h B S0 S σ H F kn _ fun p vs S' H' e kn' hs hb hf hp r =>
    k (upd S' p (.lst vs)) σ H' F (.ref p) (kn'.settle hp hs hb hf) ⟨⟨p, vs, rfl, upd_same, r.mono (same_new hs)⟩, p, rfl, hb⟩
theorem q_retPL {δ : Type} [Py δ] {xs : List δ} {ω : Type} [Py ω] [PyF ω] (f : List δ → ω) (hf : ∀ {K : Fg} {D S : Hp} {v : V}, PyF.repF K D S v xs → PyF.repF K D S v (f xs)) (ha : EvX K ta G x G1) (h : EvL K te G1 xs G2) (k : RT K B S0 E.rt (Fx.mk B ((x, f xs) : α × ω)) G2)
    (hx : ∀ {K : Fg} {D S : Hp} {v : V}, Py.rep K S v x → PyF.repF K D S v x) : At K B S0 (tSeq (tRet (tTup (tCons ta (tCons te tNil)))) u E) G := fun S σ H F kn =>
  ha B S0 S σ H F kn _ fun v S1 H1 e1 k1 r1 => h B S0 S1 σ H1 F k1 _ fun p vs S' H' e kn' hs hb hf' hp r => ⟨by show 2 ≤ sizeLine; decide, fun l hl => by
    have k2 := kn'.settle hp hs hb hf'
    have e3 := same_new (o := .tup [v, .ref p]) (k2.free hl).1
    have e4 : Same S' (upd S' p (.lst vs)) := same_new hs
    exact k _ σ _ F (.ref l) (k2.new hl) ⟨l, v, .ref p, rfl, SqT.of upd_same, hx (Py.mono ((e.trans e4).trans e3) r1), PyF.mono e3 (hf ⟨⟨p, vs, rfl, upd_same, r.mono e4⟩, p, rfl, hb⟩)⟩⟩
end
/-! ### promises of such -/
/-- from packed arguments its value, whose lists are new -/
def spN {α β : Type} [PyA α] [Py β] [PyF β] (K : Fg) (f : α → β) (pre : α → Prop) : Sp := fun vs H Q _ => ∃ (S : Hp) (a : α), Same S H ∧ PyA.rep K S vs a ∧ pre a ∧ ∀ v S' H', Grow S H S' H' → PyF.repF K H S' v (f a) → Q v H'
section
variable {α β : Type} [PyA α] [Py β] [PyF β] {f : α → β} {pre : α → Prop} {a : α} {t : TA} {E : XK} {g : TG} {D : Ends}
theorem ev_callN (ha : EvA K t G a G1) (hp : pre a) : EvX K (tCall (spN K f pre) [] E t) G (f a) G1 := fun B S0 S σ H F k Q q =>
  ha B S0 S σ H F k _ fun vs S1 H1 e1 k1 r1 => by
    rw [List.append_nil]
    exact ⟨S1, a, k1.sub, r1, hp, fun v S2 H2 g r2 => q v S2 H2 (e1.trans g.s) (k1.grow g) (PyF.un r2)⟩
/-- .. told as new by the frame's heap, or by the base -/
theorem q_callN (Z : Hp) (hZ : Z = B ∨ Z = S0) (ha : EvA K t G a G1) (hp : pre a) (k : ∀ y, y = f a → ∃ G2 ts, TgG K g (Fx.mk Z y) G1 G2 ts ∧ At K B S0 (u D) G2) : At K B S0 (tSeq (tAsg (tCall (spN K f pre) [] E t) g) u D) G := fun S σ H F kn =>
  ha B S0 S σ H F kn _ fun vs S1 H1 e1 k1 r1 => by
    show spN K f pre (vs ++ []) H1 _ E
    rw [List.append_nil]
    refine ⟨S1, a, k1.sub, r1, hp, fun v S2 H2 g r2 => ?_⟩
    obtain ⟨G2, ts, tg, q⟩ := k _ rfl
    have hs : Same Z H1 := by
      rcases hZ with rfl | rfl
      · exact k1.keep
      · exact k1.s0.trans k1.sub
    exact tg.2 B S0 S2 σ H2 F v (k1.grow g) (PyF.anti hs r2) _ fun σ' k2 _ _ => q S2 σ' H2 F k2
theorem qg_callN (i : Nat) (Z : Hp) (hZ : Z = B ∨ Z = S0) (ha : EvA K t G a G1) (hp : pre a) (hi : G1[i]?.isSome = true) (k : ∀ y, y = f a → At K B S0 (u D) (G1.set i (.im (Fx.mk Z y)))) : At K B S0 (tSeq (tAsg (tCall (spN K f pre) [] E t) (gName i)) u D) G :=
  q_callN Z hZ ha hp fun y e => ⟨_, _, tg_name hi, k y e⟩
/-- return of such a call -/
theorem q_retN (ha : EvA K t G a G1) (hp : pre a) (k : ∀ y, y = f a → RT K B S0 D.rt (Fx.mk B y) G1) : At K B S0 (tSeq (tRet (tCall (spN K f pre) [] E t)) u D) G := fun S σ H F kn =>
  ha B S0 S σ H F kn _ fun vs S1 H1 e1 k1 r1 => by
    show spN K f pre (vs ++ []) H1 _ E
    rw [List.append_nil]
    exact ⟨S1, a, k1.sub, r1, hp, fun v S2 H2 g r2 => k _ rfl S2 σ H2 F v (k1.grow g) (PyF.anti k1.keep r2)⟩
end
section
variable {P : Program} {w : World} {mg : Str → Option Value} {base : Heap} {α β : Type} [Sls α] [Py β] [PyF β]
theorem def_spN {x : Str} {st : Stmt} {N ps : List Str} {k : Nat} {f : α → β} {pre : α → Prop} (D : Def K mg x st ps) (S : FnScope N ps (defScope st)) (hn : PyA.n α = ps.length)
    (h : ∀ (fa : Addr) (cdv : Value) (A : Around) (outer : List Env) (s : Shared) (H : Hp) (E : XK), Room k (A.deeper (envOfC x (defScope st) s.heap.objs.size fa cdv)) →
      ∃ t, PSs (cxOf CX0 P w K mg base N x (defScope st) fa cdv A outer s H E).nox (defBody st) t ∧
        ∀ (a : α), pre a → ∀ (B S0 : Hp) (Q : VK), (∀ G' y, y = f a → RT K B S0 Q (Fx.mk B y) G') → At K B S0 (t { nx := fun _ H' => Q .non H', rt := Q }) (Sls.sls a ++ List.replicate (N.length - PyA.n α) .no)) :
    Cal P w K mg base (k + 1) x ps (spN K f pre) := by
  obtain ⟨fa, fd, m, F, b⟩ := D.ex
  refine ⟨fa, fd, m, F.ok S (fun vs H Q E ⟨S, a, _, r, _⟩ => (PyA.len r).trans hn) fun cdv A outer s H vs Q E hr ⟨S', a, e, r, hp, q⟩ => ?_, F.kp, b⟩
  obtain ⟨t, h1, h2⟩ := h fa cdv A outer s H E hr
  refine ⟨t, h1, h2 a hp H S' Q (fun G' y ey S1 σ1 H1 F1 v k1 r1 => ?_) S' _ H _ (start_kn e r)⟩
  subst ey
  exact q v S1 H1 ⟨k1.s0, k1.sub, k1.keep, k1.clean⟩ r1
end
/-! ### settled since the base -/
structure At1 (α : Type) where
  S : Hp
  x : α
instance {α : Type} [Py α] : Py (At1 α) := ⟨fun K S v y => Py.rep K y.S v y.x ∧ Same y.S S, fun e h => ⟨h.1, h.2.trans e⟩⟩
theorem EvX.th {α : Type} [Py α] {w : At1 α} (h : EvX K te G w G1) : EvX K te G w.x G1 := fun B S0 S σ H F k Q q => h B S0 S σ H F k Q fun v S' H' e k' r => q v S' H' e k' (Py.mono r.2 r.1)
def frz (S : Hp) : Sl → Sl
  | .no => .no
  | @Sl.im _ i x => @Sl.im _ (@instPyAt1 _ i) (At1.mk S x)
  | @Sl.ow _ i x => @Sl.ow _ i x
theorem Kn.frz (k : Kn K B S0 S σ H F G) : Kn K B S S σ H F (G.map (GL.frz S)) := by
  have k1 := k.reb
  refine ⟨k1.s0, k1.sub, k1.keep, k1.clean, k1.off, k1.dj, by rw [List.length_map]; exact k1.len, fun i s e => ?_⟩
  rw [List.getElem?_map] at e
  cases q : G[i]? with
  | none => rw [q] at e; cases e
  | some s0 =>
    rw [q] at e
    cases e
    have z := k1.sl i s0 q
    cases s0 with
    | no => exact True.intro
    | im x =>
      obtain ⟨v, h1, h2⟩ := z
      exact ⟨v, h1, h2, Same.refl _⟩
    | ow x => exact z
/-- owned things that lean on no settled one -/
class OwnI (ω : Type) [Own ω] : Prop where
  go : ∀ {K : Fg} {S S' H : Hp} {v : V} {ps : List Addr} {x : ω}, Own.own K S H v ps x → Own.own K S' H v ps x
instance : OwnI Spr := ⟨fun h => h⟩
instance : OwnI (List Int) := ⟨fun {K S S' H v ps x} ⟨p, vs, h1, h2, h3, h4⟩ => ⟨p, vs, h1, h2, h3, by rw [h4.ints]; exact RepL.of_ints x⟩⟩
/-- what is left of the state where the settled heap goes back to S -/
inductive Thw (S : Hp) : List Sl → List Sl → Prop
  | n : Thw S [] []
  | k {α : Type} [Py α] {x : α} {G G' : List Sl} : Thw S G G' → Thw S (.im (At1.mk S x) :: G) (.im (At1.mk S x) :: G')
  | o {α : Type} [Own α] [OwnI α] {x : α} {G G' : List Sl} : Thw S G G' → Thw S (.ow x :: G) (.ow x :: G')
  | d {s : Sl} {G G' : List Sl} : Thw S G G' → Thw S (.no :: G) (s :: G')
theorem Thw.len {G G' : List Sl} (h : Thw S G G') : G.length = G'.length := by
  induction h with
  | n => rfl
  | k _ ih => rw [List.length_cons, List.length_cons, ih]
  | o _ ih => rw [List.length_cons, List.length_cons, ih]
  | d _ ih => rw [List.length_cons, List.length_cons, ih]
theorem Thw.ok {S2 : Hp} {G G' : List Sl} (t : Thw S G G') : ∀ (f : Nat → Option (Option V)) (F : Nat → List Addr) (H' : Hp), (∀ i p, p ∈ F i → H' p = H p) → (∀ i s, G'[i]? = some s → SlOk K S2 H (f i) (F i) s) → ∀ i s, G[i]? = some s → SlOk K S H' (f i) (F i) s := by
  induction t with
  | n => intro f F H' hH h i s e; simp at e
  | k t ih =>
    intro f F H' hH h i s e
    cases i with
    | zero =>
      simp only [List.getElem?_cons_zero, Option.some.injEq] at e
      subst e
      obtain ⟨v, h1, h2, h3⟩ := h 0 _ rfl
      exact ⟨v, h1, h2, Same.refl _⟩
    | succ i => exact ih (fun i => f (i + 1)) (fun i => F (i + 1)) H' (fun i p hp => hH (i + 1) p hp) (fun i s e => h (i + 1) s (by simpa using e)) i s (by simpa using e)
  | o t ih =>
    intro f F H' hH h i s e
    cases i with
    | zero =>
      simp only [List.getElem?_cons_zero, Option.some.injEq] at e
      subst e
      obtain ⟨v, h1, h2⟩ := h 0 _ rfl
      exact ⟨v, h1, Own.mono (Same.refl _) (fun p hp => hH 0 p hp) (OwnI.go h2)⟩
    | succ i => exact ih (fun i => f (i + 1)) (fun i => F (i + 1)) H' (fun i p hp => hH (i + 1) p hp) (fun i s e => h (i + 1) s (by simpa using e)) i s (by simpa using e)
  | d t ih =>
    intro f F H' hH h i s e
    cases i with
    | zero =>
      simp only [List.getElem?_cons_zero, Option.some.injEq] at e
      subst e
      exact True.intro
    | succ i => exact ih (fun i => f (i + 1)) (fun i => F (i + 1)) H' (fun i p hp => hH (i + 1) p hp) (fun i s e => h (i + 1) s (by simpa using e)) i s (by simpa using e)
/-- a settled list that did not stand in the base changes; what is known since the base stays -/
theorem Kn.thaw {p : Addr} {o o' : HO} {G2 : List Sl} (k : Kn K B S0 S σ H F G) (hp : S p = some o') (h0 : S0 p = none) (t : Thw S0 G2 G) : Kn K B S0 S0 σ (upd H p o) F G2 := by
  have hb : B p = none := by
    cases e : B p with
    | none => rfl
    | some x =>
      have := k.clean p x e
      rw [hp, h0] at this
      cases this
  have hF : ∀ i q, q ∈ F i → q ≠ p := fun i q hq e => by
    have := (k.off i q hq).1
    rw [e, hp] at this
    cases this
  refine ⟨Same.refl _, fun q x e => ?_, fun q x e => ?_, fun _ _ _ => rfl, fun i q hq => ?_, k.dj, t.len.trans k.len, ?_⟩
  · rw [upd_ne (ne_of_none e h0)]
    exact k.sub q x (k.s0 q x e)
  · rw [upd_ne (ne_of_none e hb)]
    exact k.keep q x e
  · obtain ⟨h1, h2, w, h3⟩ := k.off i q hq
    exact ⟨k.s0.free h1, h2, w, by rw [upd_ne (hF i q hq)]; exact h3⟩
  · exact t.ok (fun i => σ[i]?) F _ (fun i q hq => upd_ne (hF i q hq)) k.sl
section
variable {α : Type} [Py α] {xs : List α} {D : Ends}
/-- told.append(x), told.clear() where told is new since the base -/
theorem q_appN {β : Type} [Py β] {y : β} {G3 : List Sl} (h : EvX K te G (Fx.mk S0 xs) G1) (hy : EvX K ta G1 y G2) (hz : xs.length < 1000000) (t : Thw S0 G3 G2) (k : At K B S0 (u D) G3) : At K B S0 (tSeq (tDrop (tBM K "list" rAppend te (tCons ta tNil))) u D) G := fun S σ H F kn =>
  h B S0 S σ H F kn _ fun v S1 H1 e1 k1 r1 => by
    obtain ⟨⟨p, vs, rfl, hp, hr⟩, p', ep, h0⟩ := r1
    cases ep
    exact ⟨.inl ⟨rfl, _, SqL.of (k1.sub _ _ hp)⟩, hy B S0 S1 σ H1 F k1 _ fun w S2 H2 e2 k2 r2 => ⟨p, vs, w, rfl, rfl, k2.sub _ _ (e2 _ _ hp), by rw [hr.len]; exact Nat.lt_trans hz (by decide), k S0 σ _ F (k2.thaw (e2 _ _ hp) h0 t)⟩⟩
theorem q_clrN {G3 : List Sl} (h : EvX K te G (Fx.mk S0 xs) G1) (t : Thw S0 G3 G1) (k : At K B S0 (u D) G3) : At K B S0 (tSeq (tDrop (tBM0 K "list" rClear te)) u D) G := fun S σ H F kn =>
  h B S0 S σ H F kn _ fun v S1 H1 e1 k1 r1 => by
    obtain ⟨⟨p, vs, rfl, hp, hr⟩, p', ep, h0⟩ := r1
    cases ep
    exact ⟨.inl ⟨rfl, _, SqL.of (k1.sub _ _ hp)⟩, p, vs, rfl, rfl, k1.sub _ _ hp, k S0 σ _ F (k1.thaw hp h0 t)⟩
end
/-! ### loops whose turns may change what was told in them -/
theorem Kn.unfrz {S1 : Hp} (k : Kn K B S0 S σ H F (G.map (GL.frz S1))) : Kn K B S0 S σ H F G := by
  refine ⟨k.s0, k.sub, k.keep, k.clean, k.off, k.dj, by have := k.len; rw [List.length_map] at this; exact this, fun i s e => ?_⟩
  have z := k.sl i (GL.frz S1 s) (by rw [List.getElem?_map, e]; rfl)
  cases s with
  | no => exact True.intro
  | im x =>
    obtain ⟨v, h1, h2, h3⟩ := z
    exact ⟨v, h1, Py.mono h3 h2⟩
  | ow x => exact z
section
variable {α τ : Type} [Py α] {wi : TI} {g : TG} {tb : TS} {xs : List α}
theorem qg_invZ (γ : τ → List Sl) (I : List α → τ → Prop) (s0 : τ) (hi : ItG K wi G xs G1) (h0 : Le (γ s0) G1) (hI : I [] s0)
    (hs : ∀ pre x post s, pre ++ x :: post = xs → I pre s → ∀ S1, Reb B S0 S1 → ∃ G2 ts, TgG K g x ((γ s).map (frz S1)) G2 ts ∧ At K B S1 (tb { E with nx := Mid K B S1 (fun G' => ∃ s', G' = (γ s').map (frz S1) ∧ I (pre ++ [x]) s'), ct := Mid K B S1 (fun G' => ∃ s', G' = (γ s').map (frz S1) ∧ I (pre ++ [x]) s'), bk := u E }) G2)
    (hd : ∀ s, I xs s → At K B S0 (u E) (γ s)) : At K B S0 (tSeq (tFor wi g tb) u E) G := fun S σ H F kn =>
  hi B S0 S σ H F kn _ fun J S1 H1 e1 k1 wk => by
    have rb : Reb B S0 S1 := k1.rebOf
    refine ⟨fun i m σ H => ∃ pre post S F s, pre ++ post = xs ∧ pre.length = i ∧ post.length = m ∧ Kn K B S1 S σ H F ((γ s).map (frz S1)) ∧ I pre s, ⟨xs.length, [], xs, S1, F, s0, rfl, rfl, rfl, (k1.le h0).frz, hI⟩, ?_⟩
    rintro i m σ' H' ⟨pre, post, S2, F2, s, ex, rfl, rfl, k2, p⟩
    cases post with
    | nil =>
      refine .inl ⟨(wk S2 H' pre.length k2.s0 k2.sub).2 (by rw [← ex, List.append_nil]; exact Nat.le_refl _), ?_⟩
      rw [List.append_nil] at ex
      subst ex
      exact hd s p S2 σ' H' F2 (k2.unreb rb).unfrz
    | cons x post =>
      have hx : xs[pre.length]? = some x := by
        rw [← ex, List.getElem?_append_right (Nat.le_refl _), Nat.sub_self]
        rfl
      obtain ⟨go, yl⟩ := (wk S2 H' pre.length k2.s0 k2.sub).1 x hx
      refine .inr ⟨go, Mid K B S1 (fun G' => ∃ s', G' = (γ s').map (frz S1) ∧ I (pre ++ [x]) s'), ?_, ?_⟩
      · rintro σ3 H3 ⟨S3, F3, G3, k3, s3, e3, p3⟩
        subst e3
        exact ⟨post.length, by rw [List.length_cons]; omega, pre ++ [x], post, S3, F3, s3, by rw [← ex, List.append_assoc]; rfl, by rw [List.length_append]; rfl, rfl, k3, p3⟩
      · intro v H3 y
        obtain ⟨S3, gr, r⟩ := yl v H3 y
        obtain ⟨G2, ts, tg, bd⟩ := hs pre x post s ex p S1 rb
        exact tg.2 B S1 S3 σ' H3 F2 v (k2.grow gr) r _ fun σ4 k4 _ _ => bd S3 σ4 H3 F2 k4
end
end
end GL

set_option maxHeartbeats 4000000
namespace L2
open PySem PySem.Spec PyProof.Rows
/-- a tuple of two whole numbers in a heap -/
def Two (h : Heap) (v : Value) (m n : Int) : Prop := ∃ (t : Addr) (o : Obj) (c : Nat) (u1 u2 : Tok), v = .ref t ∧ h.get? t = some o ∧ o.cls = .type "tuple" ∧ o.data = .seq #[Value.int m u1, Value.int n u2] c
section
variable {prog : Program} {w : World} {A : Around} {E : Value → Shared → Prop} {s : Shared}
theorem two_key {h : Heap} {v : Value} {m n : Int} (x : Two h v m n) : G.tupKeyC h (fun _ => false) v = some [Sum.inl m, Sum.inl n] := by
  obtain ⟨t, o, c, u1, u2, e, ho, hc, hd⟩ := x
  rw [e]
  exact G.tupKeyC_of ho hc hd rfl
theorem key_le {m n m' n' : Int} (g : lexLt itemOrd [Sum.inl m', Sum.inl n'] [Sum.inl m, Sum.inl n] = false) : le2 (m, n) (m', n') := by
  rw [lex_false] at g
  have a1 := of_decide_eq_false (show decide (m' < m) = false from g.1)
  rcases g.2 with g2 | g2
  · exact .inl (of_decide_eq_true (show decide (m < m') = true from g2))
  · rw [lex_false] at g2
    have a2 := of_decide_eq_false (show decide (n' < n) = false from g2.1)
    show m < m' ∨ (m = m' ∧ n ≤ n')
    omega
/-- xs.sort(), pairs of whole numbers -/
theorem sort_two {a : Addr} {vs : List Value} {n : Nat} {Q : Value → Shared → Prop} (ho : s.heap.get? a = some (seqObj "list" vs.toArray n)) (hv : ∀ v ∈ vs, ∃ m k, Two s.heap v m k) (hz : vs.length ≤ sizeLine)
    (h : ∀ out : Array Value, out.toList.Perm vs → out.toList.Pairwise (fun u v => ∀ m n m' n', Two s.heap u m n → Two s.heap v m' n' → le2 (m, n) (m', n')) → Q .none { s with heap := sortedHeap s.heap a vs out }) :
    wpAny (model prog w) A (call (.builtin "list.sort") [.ref a]) Q E s := by
  obtain ⟨fs, hfs⟩ := tupsOf_all (h := s.heap) (vs := vs) fun v q => by
    obtain ⟨m, k, t, o, c, u1, u2, e, h1, h2, h3⟩ := hv v q
    exact ⟨.int m u1, t, o, _, c, e, h1, h2, h3, rfl, fun _ => ⟨m, u1, rfl⟩, fun z => absurd z Bool.false_ne_true⟩
  have hk : ∀ v, v ∈ vs → ∃ l, G.tupKeyC s.heap (fun _ => false) v = some l := fun v q => by
    obtain ⟨m, k, x⟩ := hv v q
    exact ⟨_, two_key x⟩
  refine wpAny_call_entry slot_list_sort ⟨_, ho, rfl⟩ entry_list_sort (G.list_sort_tups (shape := fun _ => false) ho hfs hk hz fun st pm so _ => ⟨_, rfl, ?_⟩) (args_list_sort _)
  have p2 : (arrOf st).toList.Perm (vs.map fun v => (v, v)) := by
    have q := Array.perm_iff_toList_perm.mp pm
    rw [pairsOf_toList] at q
    exact q.trans (List.Perm.of_eq (by rw [List.zip_eq_zipWith, List.zipWith_self]))
  have mm : ∀ p ∈ (arrOf st).toList, p.1 = p.2 ∧ p.2 ∈ vs := fun p hp => by
    obtain ⟨v, q, rfl⟩ := List.mem_map.mp (p2.mem_iff.mp hp)
    exact ⟨rfl, q⟩
  have sz : (arrOf st).size = (pairsOf vs).size := by
    rw [← Array.length_toList, ← Array.length_toList]
    exact (Array.perm_iff_toList_perm.mp pm).length_eq
  have pw := keyLe_of_sorted (κ := G.tupKindC s.heap (fun _ => false)) (xs := arrOf st) (fun p hp => by
    obtain ⟨e, q⟩ := mm p hp
    rw [e]
    exact hk _ q) (by rw [sz]; exact so)
  refine h _ ?_ ?_
  · rw [Array.toList_map]
    refine (p2.map (·.2)).trans (List.Perm.of_eq ?_)
    rw [List.map_map]
    exact (List.map_congr_left fun v _ => rfl).trans (List.map_id vs)
  · rw [Array.toList_map, List.pairwise_map]
    refine List.Pairwise.imp_of_mem (fun {p p'} q q' hle m n m' n' x x' => ?_) pw
    obtain ⟨k1, k2, z1, z2, hk⟩ := hle
    rw [(mm p q).1] at z1
    rw [(mm p' q').1] at z2
    have f1 := Option.some.inj (z1.symm.trans (two_key x))
    have f2 := Option.some.inj (z2.symm.trans (two_key x'))
    rw [f1, f2] at hk
    exact key_le hk
end
section
variable {P : Program} {w : World} {A : Around} {E : Value → Shared → Prop} {s : Shared}
theorem refs_in {L : List (Addr × List Int)} : ∀ us : List Value, (∀ u ∈ us, ∃ q ∈ L, u = Value.ref q.1) → ∃ M : List (Addr × List Int), us = M.map (fun q => Value.ref q.1) ∧ ∀ q ∈ M, q ∈ L
  | [], _ => ⟨[], rfl, fun q z => nomatch z⟩
  | u :: us, h => by
    obtain ⟨q, hq, e⟩ := h u List.mem_cons_self
    obtain ⟨M, e1, h1⟩ := refs_in us fun x hx => h x (List.mem_cons_of_mem _ hx)
    exact ⟨q :: M, by rw [List.map_cons, e, e1], fun r hr => (List.mem_cons.mp hr).elim (fun z => z ▸ hq) (h1 r)⟩
theorem two_isT {h : Heap} {b : Addr} {m n : Int} (x : IsT P w h [m, n] b) : Two h (.ref b) m n := by
  obtain ⟨o, items, c, h1, h2, h3, h4⟩ := x
  obtain ⟨l⟩ := items
  cases ints_of_items h4 with
  | cons _ t1 r =>
    cases r with
    | cons _ t2 r =>
      cases r
      exact ⟨b, o, c, t1, t2, rfl, h1, h2, h3⟩
theorem Two.keep {h h' : Heap} {v : Value} {m n : Int} (k : ∀ b o, h.get? b = some o → h'.get? b = some o) (x : Two h v m n) : Two h' v m n := by
  obtain ⟨t, o, c, u1, u2, e, h1, h2⟩ := x
  exact ⟨t, o, c, u1, u2, e, k t o h1, h2⟩
/-- sorted(s), s a set of pairs of whole numbers -/
theorem sorted_pset {a : Addr} {L : List (Addr × List Int)} {es : Array (Int × Value)} {ep : Nat} {t : SetTable} {Q : Value → Shared → Prop} (R : SetTR P w s.heap a L es ep t) (hh : A.handled = none) (h2 : ∀ p ∈ L, ∃ m n, p.2 = [m, n])
    (hQ : ∀ s' p (out : Array Value) (c : Nat) (M : List (Addr × List Int)), (∀ b o, s.heap.get? b = some o → s'.heap.get? b = some o) → s'.gens = s.gens → s'.os = s.os → s.heap.objs.size ≤ p →
      s'.heap.get? p = some (seqObj "list" out c) → out.toList = M.map (fun q => Value.ref q.1) → (∀ q, q ∈ M ↔ q ∈ L) → M.length < 64 → M.Nodup → M.Pairwise (fun q r => ∀ m n m' n', q.2 = [m, n] → r.2 = [m', n'] → le2 (m, n) (m', n')) → Q (.ref p) s') :
    wpAny (model P w) A (call (.builtin "sorted") [.ref a]) Q E s := by
  obtain ⟨o, ho, hex, hd⟩ := R.ob
  refine Calls.call_function_entry kind_sorted plain_sorted entry_sorted (args_sorted1 _) ?_
  unfold Builtin.«sorted»
  refine wpAny_bind (m := checkCount "sorted" 1 1 _) (wpAny_pure ?_)
  refine wpAny_bind (collect_set (A := A.in1) hh ⟨o, ho, hex.1, hd⟩ R.fits (by have z1 := R.size; have z2 := R.few; unfold scanBound; omega) R.tab.ris R.led fun s1 vs k1 hz g1 o1 pm => ?_)
  have erow : es.toList.map (·.2) = L.map fun q => Value.ref q.1 := by rw [R.rows]; unfold rowsOf; rw [List.map_map] <;> rfl
  rw [erow] at pm
  have few : vs.length < 64 := by rw [pm.length_eq, List.length_map]; exact R.few
  refine wpAny_bind (wpAny_newList ?_ (by rw [sizeLine_eq]; omega))
  have hob : (s1.heap.push (seqObj "list" vs.toArray 0)).get? s1.heap.objs.size = some (seqObj "list" vs.toArray 0) := Heap.get?_push_size _ rfl
  have hk : ∀ b u, s.heap.get? b = some u → (s1.heap.push (seqObj "list" vs.toArray 0)).get? b = some u := fun b u e => Heap.get?_push_of_some _ (k1 b u e)
  have ht : ∀ q ∈ L, ∀ m n, q.2 = [m, n] → Two (s1.heap.push (seqObj "list" vs.toArray 0)) (.ref q.1) m n := fun q hq m n e => by
    have z := R.tup q hq
    rw [e] at z
    exact (two_isT z).keep hk
  refine wpAny_bind (wpAny_holding (sort_two (s := { s1 with heap := s1.heap.push (seqObj "list" vs.toArray 0) }) hob (fun v hv => ?_) (by rw [sizeLine_eq]; omega) fun out a1 a2 => ?_))
  · obtain ⟨q, hq, e⟩ := List.mem_map.mp (pm.mem_iff.mp hv)
    obtain ⟨m, n, e2⟩ := h2 q hq
    rw [← e]
    exact ⟨m, n, ht q hq m n e2⟩
  obtain ⟨c, hc⟩ := sortedHeap_at (vs := vs) (out := out) hob
  have pm2 := a1.trans pm
  obtain ⟨M, eM, hM⟩ := refs_in (L := L) out.toList fun v hv => by
    obtain ⟨q, hq, e⟩ := List.mem_map.mp (pm2.mem_iff.mp hv)
    exact ⟨q, hq, e.symm⟩
  have one : ∀ q ∈ L, ∀ r ∈ L, q.1 = r.1 → q = r := fun q hq r hr e => by
    have z1 := R.tup q hq
    have z2 := R.tup r hr
    rw [e] at z1
    exact Prod.ext e (z1.inj z2)
  have nref : (L.map fun q => Value.ref q.1).Nodup := List.pairwise_map.mpr (List.Pairwise.imp_of_mem (fun {q r} hq hr ne e => by
    injection e with e
    exact ne (one q hq r hr e)) (nodup_of_map R.nd))
  have nM : M.Nodup := by
    have z := pm2.nodup_iff.mpr nref
    rw [eM] at z
    exact nodup_of_map z
  refine wpAny_pure ⟨_, rfl, hQ _ s1.heap.objs.size out c M (fun b u e => ?_) g1 o1 hz hc eM (fun q => ⟨hM q, fun hq => ?_⟩) (by rw [← List.length_map (f := fun q : Addr × List Int => Value.ref q.1), ← eM, a1.length_eq]; exact few) nM ?_⟩
  · have q := k1 b u e
    have lt := Heap.lt_size q
    show (sortedHeap (s1.heap.push (seqObj "list" vs.toArray 0)) s1.heap.objs.size vs out).get? b = some u
    rw [sortedHeap_old (Nat.ne_of_lt lt) (by rw [size_push']; exact Nat.lt_succ_of_lt lt)]
    exact Heap.get?_push_of_some _ q
  · have z : Value.ref q.1 ∈ out.toList := pm2.mem_iff.mpr (List.mem_map.mpr ⟨q, hq, rfl⟩)
    rw [eM] at z
    obtain ⟨r, hr, e⟩ := List.mem_map.mp z
    injection e with e
    rw [← one r (hM r hr) q hq e]
    exact hr
  · rw [eM] at a2
    refine List.Pairwise.imp_of_mem (fun {q r} hq hr hle m n m' n' e e' => ?_) (List.pairwise_map.mp a2)
    exact hle m n m' n' (ht q (hM q hq) m n e) (ht r (hM r hr) m' n' e')
end
section
variable {X : Cx}
/-- sorted(set(xs)), xs a list of pairs of whole numbers -/
def tSortSet2 (K : PySem.W.Frag) (ta : TE) : TE := fun σ H Q => ta σ H fun x H1 => ∃ (l : Addr) (xs : List V), x = V.ref l ∧ SqL K H1 l xs ∧ xs.length < 64 ∧ (∀ x ∈ xs, ∃ m n : Int, TupI K H1 x [m, n]) ∧
  ∀ (ys : List V) (p : Addr), (∀ y ∈ ys, y ∈ xs) → (∀ x ∈ xs, ∀ m n, TupI K H1 x [m, n] → ∃ y ∈ ys, ∀ m' n', TupI K H1 y [m', n'] → (m', n') = (m, n)) → ys.Pairwise (fun x y => ∀ m n m' n', TupI K H1 x [m, n] → TupI K H1 y [m', n'] → le2 (m, n) (m', n') ∧ (m, n) ≠ (m', n')) → ys.length < 64 → H1 p = none → Q (.ref p) (upd H1 p (.lst ys))
theorem keys_of {K : PySem.W.Frag} {H : Hp} : ∀ {xs : List V}, (∀ x ∈ xs, ∃ m n : Int, TupI K H x [m, n]) → ∃ ks : List (Addr × List Int), xs = ks.map (fun p => V.ref p.1) ∧ ∀ p ∈ ks, SqT K H p.1 (p.2.map V.int) ∧ ∃ m n, p.2 = [m, n]
  | [], _ => ⟨[], rfl, fun p z => nomatch z⟩
  | x :: xs, h => by
    obtain ⟨m, n, t, e, ht⟩ := h x List.mem_cons_self
    obtain ⟨ks, e1, h1⟩ := keys_of (xs := xs) fun y hy => h y (List.mem_cons_of_mem _ hy)
    refine ⟨(t, [m, n]) :: ks, by rw [List.map_cons, e, e1], fun p hp => ?_⟩
    rcases List.mem_cons.mp hp with z | z
    · rw [z]; exact ⟨ht, m, n, rfl⟩
    · exact h1 p z
theorem pe_sortSet2 {a : Expr} {ta : TE} {p p2 q pos : Pos} (hc : X.calm = true) (hu : X.A.units + 64 < cLine) (hg : Gl X "sorted") (hm : X.mg "sorted" = none) (hg2 : Gl X "set") (hm2 : X.mg "set" = none) (ha : PE X a ta)
    (na : starEach [a] X.env = (false, eval a X.env) :: starEach [] X.env := by rfl) : PE X (.Call (.Name "sorted" p) [.Call (.Name "set" p2) [a] [] q] [] pos) (tSortSet2 X.K ta) := by
  refine ⟨fun pins s σ H Q I h => ?_⟩
  refine Call_ (ld_blt I hg hm PyProof.Rows.boot_sorted ?_)
  refine PyProof.Rows.callWith_builtin1 (PyProof.Rows.args_cons ?_ rfl) rfl rfl
  refine Call_ (ld_blt I hg2 hm2 PyProof.Rows.boot_set ?_)
  refine PyProof.Rows.callWith_type1 (PyProof.Rows.args_cons (thn (ha.run pins s σ H _ I h) fun v s1 ⟨x, H1, I1, r1, q1⟩ => PyProof.Rows.args_nil ?_) na) na rfl
  obtain ⟨l, xs, rfl, hq, h1, hx, q1⟩ := q1
  cases r1
  obtain ⟨ks, ek, hk⟩ := keys_of hx
  obtain ⟨its, r, pl, hz⟩ := I1.list hq
  rw [ek] at r
  have hlk : ks.length < 64 := by rw [ek, List.length_map] at h1; exact h1
  refine call_set_tups (P := X.prog) (w := X.w) ks (I1.ok.hd hc) pl.isList (by simpa using refs_of_vals r) (fun p hp => I1.isT (hk p hp).1) hlk (by omega) fun h' tk L es ep t R g kp => ?_
  refine PyProof.Rows.args_nil ?_
  have I2 : Inv X pins σ H1 { s1 with heap := h', toks := tk } := I1.kept kp
  have hL : ∀ p ∈ L, p ∈ ks := fun p hp => List.mem_of_mem_take (g.sub p hp)
  refine sorted_pset (s := { s1 with heap := h', toks := tk }) R (I2.ok.hd hc) (fun p hp => (hk p (hL p hp)).2) fun s' p out c M k gg o hp hgt hout hM hlM nM pw => ?_
  have hlen : (M.map fun q => V.ref q.1).length ≤ sizeLine := by rw [List.length_map, sizeLine_eq]; omega
  have hn : H1 p = none := I2.hok.fresh hp
  have J : Inv X pins σ (upd H1 p (.lst (M.map fun q => V.ref q.1))) { { s1 with heap := h', toks := tk } with heap := s'.heap, gens := s'.gens, drawn := s'.drawn, toks := s'.toks } :=
    I2.call (ch := []) (Un.laid k hp hn) (I2.hok.laid k hp ⟨hlen, out.toList, c, by rw [hout]; exact vals_of_refs M, hgt⟩) (by rw [gg]; exact I2.bare) (fun _ z => nomatch z)
  have e : s' = { { s1 with heap := h', toks := tk } with heap := s'.heap, gens := s'.gens, drawn := s'.drawn, toks := s'.toks } := by
    cases s'
    cases s1
    cases o
    rfl
  rw [e]
  have tup_eq : ∀ q ∈ ks, ∀ m n, TupI X.K H1 (V.ref q.1) [m, n] → q.2 = [m, n] := fun q hq m n ⟨t, et, ht⟩ => by
    cases et
    exact (I1.isT (hk q hq).1).inj (I1.isT ht)
  refine ⟨.ref p, _, J, rfl, q1 _ p (fun y hy => ?_) (fun x hx' m n tx => ?_) ?_ (by rw [List.length_map]; exact hlM) hn⟩
  · obtain ⟨q, hq, rfl⟩ := List.mem_map.mp hy
    rw [ek]
    exact List.mem_map.mpr ⟨q, hL q ((hM q).mp hq), rfl⟩
  · rw [ek] at hx'
    obtain ⟨q, hq, rfl⟩ := List.mem_map.mp hx'
    have e1 := tup_eq q hq m n tx
    obtain ⟨r, hr, e2⟩ := List.mem_map.mp (g.all q (by rw [List.take_length]; exact hq))
    refine ⟨.ref r.1, List.mem_map.mpr ⟨r, (hM r).mpr hr, rfl⟩, fun m' n' ty => ?_⟩
    have z := tup_eq r (hL r hr) m' n' ty
    rw [e2, e1] at z
    simp only [List.cons.injEq, and_true] at z
    rw [z.1, z.2]
  · rw [List.pairwise_map]
    have nd2 : M.Pairwise (fun q r => q.2 ≠ r.2) := by
      refine List.Pairwise.imp_of_mem (fun {q r} hq hr ne e => ?_) nM
      have := List.pairwise_map.mp R.nd
      exact ne (by
        have inj : ∀ {l : List (Addr × List Int)}, (l.map (·.2)).Nodup → ∀ q ∈ l, ∀ r ∈ l, q.2 = r.2 → q = r := by
          intro l
          induction l with
          | nil => intro _ q hq; cases hq
          | cons x l ih =>
            intro hn q hq r hr e
            rw [List.map_cons, List.nodup_cons] at hn
            rcases List.mem_cons.mp hq with z1 | z1
            · rcases List.mem_cons.mp hr with z2 | z2
              · rw [z1, z2]
              · exact absurd (List.mem_map.mpr ⟨r, z2, by rw [← e, z1]⟩) hn.1
            · rcases List.mem_cons.mp hr with z2 | z2
              · exact absurd (List.mem_map.mpr ⟨q, z1, by rw [e, z2]⟩) hn.1
              · exact ih hn.2 q z1 r z2 e
        exact inj R.nd q ((hM q).mp hq) r ((hM r).mp hr) e)
    refine List.Pairwise.imp_of_mem (fun {q r} hq hr ⟨h3, h4⟩ m n m' n' t1 t2 => ?_) (pw.and nd2)
    have e1 := tup_eq q (hL q ((hM q).mp hq)) m n t1
    have e2 := tup_eq r (hL r ((hM r).mp hr)) m' n' t2
    refine ⟨h3 m n m' n' e1 e2, fun z => h4 ?_⟩
    cases z
    rw [e1, e2]
end
end L2
namespace GL
open PySem PySem.Spec PyProof.Rows L2
section
variable {K : Fg} {B S0 S1 S S' : Hp} {σ : L2.St} {H H' : Hp} {F : Nat → List Addr} {G G' G1 G2 G3 : List Sl} {ta tb tc te : TE} {i j : Nat} {u : TS} {E : Ends}
def lt2 (a b : Int × Int) : Prop := a.1 < b.1 ∨ (a.1 = b.1 ∧ a.2 < b.2)
theorem lt2_of {a b : Int × Int} (h : le2 a b) (ne : a ≠ b) : lt2 a b := by
  unfold le2 at h
  unfold lt2
  rcases h with h | ⟨h1, h2⟩
  · exact .inl h
  · by_cases e : a.2 = b.2
    · exact absurd (Prod.ext h1 e) ne
    · exact .inr ⟨h1, by omega⟩
theorem lt2_ne {a b : Int × Int} (h : lt2 a b) : a ≠ b := fun e => by
  rw [e] at h
  unfold lt2 at h
  omega
theorem lt2_asymm {a b : Int × Int} (h : lt2 a b) (h' : lt2 b a) : False := by unfold lt2 at *; omega
/-- sorted, each once, of pairs -/
@[irreducible] def usrt2 (xs : List (Int × Int)) : List (Int × Int) := srt2 xs.eraseDups
theorem mem_usrt2 {xs : List (Int × Int)} {k : Int × Int} : k ∈ usrt2 xs ↔ k ∈ xs := by
  unfold usrt2
  rw [(srt2_perm _).mem_iff, List.mem_eraseDups]
theorem nodup_eraseDups2 {δ : Type} [BEq δ] [LawfulBEq δ] (xs : List δ) : xs.eraseDups.Nodup := by
  generalize hn : xs.length = n
  induction n using Nat.strongRecOn generalizing xs with
  | _ n ih =>
    cases xs with
    | nil => simp
    | cons a l =>
      rw [List.eraseDups_cons]
      refine List.nodup_cons.mpr ⟨?_, ih _ ?_ _ rfl⟩
      · rw [List.mem_eraseDups, List.mem_filter]; simp
      · have := List.length_filter_le (fun b => !b == a) l
        simp only [List.length_cons] at hn
        omega
theorem usrt2_pw (xs : List (Int × Int)) : (usrt2 xs).Pairwise lt2 := by
  unfold usrt2
  have h1 := srt2_sorted xs.eraseDups
  have h2 : (srt2 xs.eraseDups).Nodup := (srt2_perm _).symm.nodup (nodup_eraseDups2 xs)
  exact (h1.and h2).imp fun ⟨a, b⟩ => lt2_of a b
theorem pw_lt2_unique : ∀ {xs ys : List (Int × Int)}, xs.Pairwise lt2 → ys.Pairwise lt2 → (∀ k, k ∈ xs ↔ k ∈ ys) → xs = ys
  | [], [], _, _, _ => rfl
  | [], y :: ys, _, _, h => absurd ((h y).mpr List.mem_cons_self) (by simp)
  | x :: xs, [], _, _, h => absurd ((h x).mp List.mem_cons_self) (by simp)
  | x :: xs, y :: ys, hx, hy, h => by
    have hx' := List.pairwise_cons.mp hx
    have hy' := List.pairwise_cons.mp hy
    have e : x = y := by
      rcases List.mem_cons.mp ((h x).mp List.mem_cons_self) with e | e
      · exact e
      · rcases List.mem_cons.mp ((h y).mpr List.mem_cons_self) with e2 | e2
        · exact e2.symm
        · exact (lt2_asymm (hx'.1 _ e2) (hy'.1 _ e)).elim
    subst e
    rw [pw_lt2_unique hx'.2 hy'.2 fun k => ?_]
    constructor
    · intro hk
      rcases List.mem_cons.mp ((h k).mp (List.mem_cons_of_mem _ hk)) with e | e
      · exact absurd e.symm (lt2_ne (hx'.1 _ hk))
      · exact e
    · intro hk
      rcases List.mem_cons.mp ((h k).mpr (List.mem_cons_of_mem _ hk)) with e | e
      · exact absurd e.symm (lt2_ne (hy'.1 _ hk))
      · exact e
theorem usrt2_eq {xs ys : List (Int × Int)} (h : ys.Pairwise lt2) (m : ∀ k, k ∈ ys ↔ k ∈ xs) : ys = usrt2 xs := pw_lt2_unique h (usrt2_pw xs) fun k => (m k).trans mem_usrt2.symm
/-- values drawn from a list of data -/
theorem RepL.pick {α : Type} [Py α] {vs : List V} {xs : List α} (h : RepL K S vs xs) : ∀ {ws : List V}, (∀ w ∈ ws, w ∈ vs) → ∃ ys : List α, RepL K S ws ys ∧ ∀ y ∈ ys, y ∈ xs
  | [], _ => ⟨[], True.intro, fun y z => nomatch z⟩
  | w :: ws, hw => by
    obtain ⟨i, hi⟩ := List.getElem?_of_mem (hw w List.mem_cons_self)
    obtain ⟨x, h1, h2⟩ := h.got hi
    obtain ⟨ys, h3, h4⟩ := RepL.pick h (ws := ws) fun z hz => hw z (List.mem_cons_of_mem _ hz)
    exact ⟨x :: ys, ⟨h2, h3⟩, fun y hy => (List.mem_cons.mp hy).elim (fun e => e ▸ List.mem_of_getElem? h1) (h4 y)⟩
theorem el_sortSet2 {xs : List (Int × Int)} (h : EvC K ta G xs G1) (hz : xs.length < 64) : EvL K (tSortSet2 K ta) G (usrt2 xs) G1 := fun B S0 S σ H F k Q q =>
  h B S0 S σ H F k _ fun v S1 H1 e1 k1 r1 => by
    obtain ⟨p, vs, rfl, hp, hr⟩ := r1.at k1
    refine ⟨p, vs, rfl, SqL.of hp, by rw [hr.len]; exact hz, all_rep2 k1.sub hr, fun ys l hin hall pw hl hf => ?_⟩
    obtain ⟨zs, h1, h2⟩ := hr.pick hin
    have pz : zs.Pairwise lt2 := by
      have : ∀ {us : List V} {zs : List (Int × Int)}, RepL K S1 us zs → us.Pairwise (fun x y => ∀ m n m' n', TupI K H1 x [m, n] → TupI K H1 y [m', n'] → le2 (m, n) (m', n') ∧ (m, n) ≠ (m', n')) → zs.Pairwise lt2 := by
        intro us
        induction us with
        | nil => intro zs hr _; cases zs with | nil => exact List.Pairwise.nil | cons _ _ => exact hr.elim
        | cons u us ih =>
          intro zs hr hp
          cases zs with
          | nil => exact hr.elim
          | cons z zs =>
            have hp' := List.pairwise_cons.mp hp
            refine List.pairwise_cons.mpr ⟨fun y hy => ?_, ih hr.2 hp'.2⟩
            obtain ⟨i, hi⟩ := List.getElem?_of_mem hy
            obtain ⟨w, hw, hr'⟩ := hr.2.get hi
            obtain ⟨a, b⟩ := hp'.1 w (List.mem_of_getElem? hw) _ _ _ _ (rep2 k1.sub hr.1) (rep2 k1.sub hr')
            exact lt2_of a b
      exact this h1 pw
    have e : zs = usrt2 xs := usrt2_eq pz fun x => ⟨h2 x, fun hx => by
      obtain ⟨i, hi⟩ := List.getElem?_of_mem hx
      obtain ⟨w, hw, hr'⟩ := hr.get hi
      obtain ⟨y, hy, ty⟩ := hall w (List.mem_of_getElem? hw) _ _ (rep2 k1.sub hr')
      obtain ⟨i', hi'⟩ := List.getElem?_of_mem hy
      obtain ⟨x', hx', hr''⟩ := h1.got hi'
      have e : (x'.1, x'.2) = (x.1, x.2) := ty _ _ (rep2 k1.sub hr'')
      rw [show x = x' from e.symm]
      exact List.mem_of_getElem? hx'⟩
    rw [e] at h1
    exact mk_list k1 hf h1 fun p vs S2 H2 e2 k2 a b c d r => q p vs S2 H2 (e1.trans e2) k2 a b c d r
end
end GL

namespace GL
open PySem PySem.Spec PyProof.Rows L2
section
variable {K : Fg} {B S0 S1 S S' D : Hp} {σ : L2.St} {H H' : Hp} {F : Nat → List Addr} {G G' G1 G2 G3 : List Sl} {ta tb tc te : TE} {i j : Nat} {t u : TS} {E : Ends}
section
variable {α β γ δ : Type} [Py α] [Py β] [Py γ] [Py δ] [PyF α] [PyF β] [PyF γ] [PyF δ] {g1 g2 g3 : TG} {t1 t2 t3 : List Nat}
theorem tg_pairF {w : Fx (α × β)} (h1 : TgG K g1 (Fx.mk w.D w.x.1) G G1 t1) (h2 : TgG K g2 (Fx.mk w.D w.x.2) G1 G2 t2) : TgG K (gTup K 2 (gCons g1 (gCons g2 gNil))) w G G2 (t1 ++ t2) := ⟨fun j hj => (h2.1 j (notL hj).2).trans (h1.1 j (notL hj).1), fun B S0 S σ H F v k r Q q => by
  obtain ⟨p, a, b, rfl, hp, ra, rb⟩ := r
  refine ⟨p, [a, b], rfl, seqT k.sub hp, rfl, a, [b], rfl, h1.2 B S0 S σ H F a k ra _ fun σ1 k1 o1 w1 => ⟨b, [], rfl, h2.2 B S0 S σ1 H F b k1 rb _ fun σ2 k2 o2 w2 => ⟨rfl, q σ2 k2 (fun j hj => (o2 j (notL hj).2).trans (o1 j (notL hj).1)) fun vs hv => ?_⟩⟩⟩
  rw [w2 vs fun t ht => hv t (List.mem_append_right _ ht), w1 vs fun t ht => hv t (List.mem_append_left _ ht)]⟩
theorem atI_neg {vs : List V} {v : V} {n : Nat} (hl : vs.length = n + 1) (h : vs[n]? = some v) : atI vs (-1) = some v := by
  have e : ixN vs.length (-1) = some n := by
    unfold ixN
    rw [hl]
    simp
    try omega
  unfold atI
  rw [e]
  exact h
theorem ev_smLF {w : Fx (Sum (T3 α β γ) (α × δ))} (ha : EvX K ta G w G1) : EvX K (tOp (rIxT K) ta (tUn (rU fun i => .int (-i)) (tC (.int 1)))) G (Fx.mk w.D (smL w.x)) G1 := fun B S0 S σ H F k Q q =>
  ha B S0 S σ H F k _ fun v S1 H1 e1 k1 r1 => by
    obtain ⟨D, x⟩ := w
    cases x with
    | inl y =>
      obtain ⟨p, a, b, c, rfl, hp, h1, h2, h3⟩ := r1
      exact ⟨1, rfl, p, _, -1, c, rfl, rfl, seqT k1.sub hp, atI_neg rfl rfl, q c S1 H1 e1 k1 h3⟩
    | inr y =>
      obtain ⟨p, a, b, rfl, hp, h1, h2⟩ := r1
      exact ⟨1, rfl, p, _, -1, b, rfl, rfl, seqT k1.sub hp, atI_neg rfl rfl, q b S1 H1 e1 k1 h2⟩
end
section
variable {α β ω : Type} [Py α] [Py β] [Py ω] {D : Ends}
/-- told.append(x), told one of two lists that is new since the base -/
theorem q_appNS {y : ω} {w : Sum (List α) (List β)} {G3 : List Sl} (h : EvX K te G (Fx.mk S0 w) G1) (hy : EvX K ta G1 y G2) (hz : (match w with | .inl xs => xs.length | .inr xs => xs.length) < 1000000) (t : Thw S0 G3 G2) (k : At K B S0 (u D) G3) : At K B S0 (tSeq (tDrop (tBM K "list" rAppend te (tCons ta tNil))) u D) G := by
  cases w with
  | inl xs => exact q_appN (xs := xs) (fun B S0 S σ H F kn Q q => h B S0 S σ H F kn Q fun v S' H' e k' r => q v S' H' e k' r) hy hz t k
  | inr xs => exact q_appN (xs := xs) (fun B S0 S σ H F kn Q q => h B S0 S σ H F kn Q fun v S' H' e k' r => q v S' H' e k' r) hy hz t k
end
/-- len(set(xs)), no number twice -/
theorem ev_lenSet {xs : List Int} (h : EvC K ta G xs G1) (hz : xs.length < 64) (nd : xs.Nodup) : EvX K (tLenSetI K ta) G (xs.length : Int) G1 := fun B S0 S σ H F k Q q =>
  h B S0 S σ H F k _ fun v S1 H1 e1 k1 r1 => by
    obtain ⟨p, vs, h1, h2, h3⟩ := r1.at k1
    exact ⟨p, xs, h1, SqL.of (by rw [h2, h3.ints]), hz, nd, q _ S1 H1 e1 k1 rfl⟩
theorem EvX.p2L {α β γ : Type} [Py α] [Py β] [Py γ] [Inhabited β] {x : α × Sum β γ} (h : EvX K te G x G1) (hl : x.2.isLeft = true) : EvX K te G ((x.1, GL.lG x.2) : α × β) G1 := by
  obtain ⟨a, s⟩ := x
  cases s with
  | inl y => exact fun B S0 S σ H F k Q q => h B S0 S σ H F k Q fun v S' H' e k' r => q v S' H' e k' r
  | inr y => cases hl
/-! slices whose bounds turn an owned thing -/
def EvOS (K : Fg) (t : TO) (G : List Sl) (o : Option Int) (G' : List Sl) : Prop := ∀ B S0 S σ H F, Kn K B S0 S σ H F G → ∀ Q : Option Int → Hp → Prop, (∀ S' H', Same S S' → Kn K B S0 S' σ H' F G' → Q o H') → t σ H Q
theorem eos_none : EvOS K tNoPart G none G := fun B S0 S σ H F k Q q => q S H (Same.refl _) k
theorem eos_some {n : Int} (h : EvX K ta G n G1) : EvOS K (tPart ta) G (some n) G1 := fun B S0 S σ H F k Q q => h B S0 S σ H F k _ fun v S1 H1 e1 k1 r1 => ⟨n, r1, q S1 H1 e1 k1⟩
theorem el_sliceX {α : Type} [Py α] {xs : List α} {tl th : TO} {lo hi : Option Int} (h : EvX K ta G xs G1) (hl : EvOS K tl G1 lo G2) (hh : EvOS K th G2 hi G3) : EvL K (tSl (rSlL K) ta tl th) G (cutL xs lo hi) G3 := fun B S0 S σ H F k Q q =>
  h B S0 S σ H F k _ fun v S1 H1 e1 k1 r1 => hl B S0 S1 σ H1 F k1 _ fun S2 H2 e2 k2 => hh B S0 S2 σ H2 F k2 _ fun S3 H3 e3 k3 => by
    obtain ⟨p, vs, rfl, hp, hr⟩ := Py.mono (e2.trans e3) r1
    exact ⟨p, vs, rfl, SqL.of (k3.sub _ _ hp), fun l hl => mk_list k3 hl (hr.cut lo hi) fun p vs S4 H4 e4 k4 a b c d r => q p vs S4 H4 ((e1.trans (e2.trans e3)).trans e4) k4 a b c d r⟩
end
end GL

/-! The laws' pens: a list of a list of whole numbers and two whole numbers. -/
namespace GL
open PySem PySem.Spec PyProof.Rows L2
structure Pen where
  a : Addr
  q : Addr
  l : List Int
  p : Nat
  w : Int
instance : Own Pen := ⟨fun K S H v ps x => v = .ref x.a ∧ ps = [x.a, x.q] ∧ H x.a = some (.lst [.ref x.q, .int x.p, .int x.w]) ∧ H x.q = some (.lst (x.l.map V.int)), fun {K S S' H H' v ps x} e a ⟨h1, h2, h3, h4⟩ =>
  ⟨h1, h2, by rw [a x.a (by rw [h2]; simp)]; exact h3, by rw [a x.q (by rw [h2]; simp)]; exact h4⟩⟩
instance : Anch Pen := ⟨fun x => (.ref x.a, [x.a, x.q]), fun ⟨h1, h2, _⟩ => by rw [h1, h2]⟩
instance : OwnI Pen := ⟨fun h => h⟩
section
variable {K : Fg} {B S0 S1 S S' D : Hp} {σ : L2.St} {H H' : Hp} {F : Nat → List Addr} {G G' G1 G2 G3 : List Sl} {ta tb tc te : TE} {i j : Nat} {t u : TS} {E : Ends}
theorem Kn.setOwns {α : Type} [Own α] {x : α} {v : V} {i : Nat} {ps : List Addr} (k : Kn K B S0 S σ H F G) (r : Own.own K S H v ps x) (hi : G[i]?.isSome = true) (hp : ∀ p ∈ ps, S p = none ∧ B p = none ∧ (∃ o, H p = some o) ∧ ∀ j, p ∉ F j) :
    Kn K B S0 S (σ.set i (some v)) H (upF F i ps) (G.set i (.ow x)) := by
  have hl := isSome_lt hi
  refine ⟨k.s0, k.sub, k.keep, k.clean, fun j q hq => ?_, fun a b q ha hb' => ?_, by rw [List.length_set, List.length_set]; exact k.len, fun j s e => ?_⟩
  · by_cases e : j = i
    · subst e
      rw [upF_self] at hq
      exact ⟨(hp q hq).1, (hp q hq).2.1, (hp q hq).2.2.1⟩
    · rw [upF_ne e] at hq
      exact k.off j q hq
  · by_cases ea : a = i
    · by_cases eb : b = i
      · rw [ea, eb]
      · rw [ea, upF_self] at ha
        rw [upF_ne eb] at hb'
        exact absurd hb' ((hp q ha).2.2.2 b)
    · rw [upF_ne ea] at ha
      by_cases eb : b = i
      · rw [eb, upF_self] at hb'
        exact absurd ha ((hp q hb').2.2.2 a)
      · rw [upF_ne eb] at hb'
        exact k.dj a b q ha hb'
  · rcases set_get e with ⟨rfl, rfl⟩ | ⟨ne, e⟩
    · rw [upF_self]
      exact ⟨v, List.getElem?_set_self (by rw [← k.len]; exact hl), r⟩
    · rw [List.getElem?_set_ne (fun z => ne z.symm), upF_ne ne]
      exact k.sl j s e
variable {z : Pen}
theorem ev_pen1 (hi : G[i]? = some (.ow z)) : EvX K (tOp (rIxL K) (tVar i) (tC (.int 1))) G (z.p : Int) G := fun B S0 S σ H F k Q q => by
  obtain ⟨v, h1, h2, h3, h4, h5⟩ := k.ow hi
  exact ⟨v, h1, z.a, _, 1, .int z.p, h2, rfl, SqL.of h4, atI_nat (j := 1) rfl, q _ S H (Same.refl _) k rfl⟩
theorem ev_pen2 (hi : G[i]? = some (.ow z)) : EvX K (tOp (rIxL K) (tVar i) (tC (.int 2))) G z.w G := fun B S0 S σ H F k Q q => by
  obtain ⟨v, h1, h2, h3, h4, h5⟩ := k.ow hi
  exact ⟨v, h1, z.a, _, 2, .int z.w, h2, rfl, SqL.of h4, atI_nat (j := 2) rfl, q _ S H (Same.refl _) k rfl⟩
theorem ev_penLen (hi : G[i]? = some (.ow z)) : EvX K (tCB (rLenS K) (tCons (tOp (rIxL K) (tVar i) (tC (.int 0))) tNil)) G (z.l.length : Int) G := fun B S0 S σ H F k Q q => by
  obtain ⟨v, h1, h2, h3, h4, h5⟩ := k.ow hi
  exact ⟨v, h1, z.a, _, 0, .ref z.q, h2, rfl, SqL.of h4, atI_nat (j := 0) rfl, z.q, _, rfl, .inl (SqL.of h5), q _ S H (Same.refl _) k (by rw [List.length_map]; rfl)⟩
theorem ev_penAt {n : Int} (hi : G[i]? = some (.ow z)) (hb : EvX K tb G n G) (h : 0 ≤ n ∧ n < z.l.length) : EvX K (tOp (rIxL K) (tOp (rIxL K) (tVar i) (tC (.int 0))) tb) G (ix z.l n) G := fun B S0 S σ H F k Q q => by
  obtain ⟨v, h1, h2, h3, h4, h5⟩ := k.ow hi
  refine ⟨v, h1, z.a, _, 0, .ref z.q, h2, rfl, SqL.of h4, atI_nat (j := 0) rfl, hb B S0 S σ H F k _ fun w S2 H2 e2 k2 r2 => ?_⟩
  obtain ⟨v', h1', h2', h3', h4', h5'⟩ := k2.ow hi
  refine ⟨z.q, _, n, .int (ix z.l n), rfl, r2, SqL.of h5', atI_of h.1 ?_, q _ S2 H2 e2 k2 rfl⟩
  rw [List.getElem?_map, ix_at h.1 h.2]
  rfl
theorem pen_upd {v : V} {p : Nat} {w : Int} (k : Kn K B S0 S σ H F G) (hi : G[i]? = some (.ow z)) : Kn K B S0 S σ (upd H z.a (.lst [.ref z.q, .int p, .int w])) F (G.set i (.ow (Pen.mk z.a z.q z.l p w))) := by
  obtain ⟨v, h1, h2, h3, h4, h5⟩ := k.ow hi
  have ne : z.q ≠ z.a := fun e => by
    rw [e, h4] at h5
    injection h5 with h5
    injection h5 with h5
    cases hl : z.l with
    | nil => rw [hl] at h5; cases h5
    | cons x l => rw [hl] at h5; injection h5 with h6; cases h6
  refine k.mut h1 (fun q hq => upd_ne fun e => hq (by rw [h3, e]; simp)) (fun q hq => ?_) ⟨h2, h3, upd_same, by rw [upd_ne ne]; exact h5⟩
  by_cases e : q = z.a
  · exact ⟨_, by rw [e]; exact upd_same⟩
  · obtain ⟨_, _, o, h⟩ := k.off i q hq
    exact ⟨o, by rw [upd_ne e]; exact h⟩
theorem q_pen1 {n : Int} (p : Nat) (h : EvX K te G n G) (hi : G[i]? = some (.ow z)) (hn : n = (p : Int)) (k : At K B S0 (u E) (G.set i (.ow (Pen.mk z.a z.q z.l p z.w)))) : At K B S0 (tSeq (tAsg te (gSub (tVar i) (tC (.int 1)) rSetL)) u E) G := fun S σ H F kn =>
  h B S0 S σ H F kn _ fun v S1 H1 e1 k1 r1 => by
    obtain ⟨w, h1, h2, h3, h4, h5⟩ := k1.ow hi
    refine ⟨w, h1, z.a, _, 1, 1, h2, rfl, h4, rfl, k S1 σ _ F ?_⟩
    rw [show v = .int n from r1, hn]
    exact pen_upd (v := w) k1 hi
theorem q_pen2 {n : Int} (h : EvX K te G n G) (hi : G[i]? = some (.ow z)) (k : At K B S0 (u E) (G.set i (.ow (Pen.mk z.a z.q z.l z.p n)))) : At K B S0 (tSeq (tAsg te (gSub (tVar i) (tC (.int 2)) rSetL)) u E) G := fun S σ H F kn =>
  h B S0 S σ H F kn _ fun v S1 H1 e1 k1 r1 => by
    obtain ⟨w, h1, h2, h3, h4, h5⟩ := k1.ow hi
    refine ⟨w, h1, z.a, _, 2, 2, h2, rfl, h4, rfl, k S1 σ _ F ?_⟩
    rw [show v = .int n from r1]
    exact pen_upd (v := w) k1 hi
theorem el_sliceS {xs : Scr} {tl th : TO} {lo hi : Option Int} (h : EvX K ta G xs G) (hl : EvO K tl G lo) (hh : EvO K th G hi) : EvL K (tSl (rSlL K) ta tl th) G (cutL xs.l lo hi) G := fun B S0 S σ H F k Q q =>
  h B S0 S σ H F k _ fun v S1 H1 e1 k1 r1 => hl B S0 S1 σ H1 F k1 _ fun S2 H2 e2 k2 => hh B S0 S2 σ H2 F k2 _ fun S3 H3 e3 k3 => by
    obtain ⟨p, rfl, hp⟩ := Py.mono (e2.trans e3) r1
    exact ⟨p, _, rfl, k3.sub.seq hp, fun l hl => mk_list k3 hl ((RepL.of_ints xs.l).cut lo hi) fun p vs S4 H4 e4 k4 a b c d r => q p vs S4 H4 (((e1.trans e2).trans e3).trans e4) k4 a b c d r⟩
end
/-! the making of a pen -/
def spPen (K : Fg) : Sp := fun vs H Q _ => ∃ (S : Hp) (a : Scr × Unit), Same S H ∧ PyA.rep K S vs a ∧ a.1.l.length ≤ 63 ∧ ∀ (l : List Int) (p q : Addr) (S' H' : Hp), Grow S H S' H' → l.length ≤ 63 → H p = none → S' p = none → H q = none → S' q = none → H' p = some (.lst [.ref q, .int 0, .int 0]) → H' q = some (.lst (l.map V.int)) → Q (.ref p) H'
section
variable {P : Program} {w : World} {K : Fg} {mg : Str → Option Value} {base : Heap} {B S0 : Hp} {G G1 : List Sl} {t : TA} {E : XK} {u : TS} {D : Ends} {te : TE}
theorem def_pen {x : Str} {st : Stmt} {N ps : List Str} {k : Nat} (D : Def K mg x st ps) (S : FnScope N ps (defScope st)) (hn : 1 = ps.length)
    (h : ∀ (fa : Addr) (cdv : Value) (A : Around) (outer : List Env) (s : Shared) (H : Hp) (E : XK), Room k (A.deeper (envOfC x (defScope st) s.heap.objs.size fa cdv)) →
      ∃ t, PSs (cxOf CX0 P w K mg base N x (defScope st) fa cdv A outer s H E).nox (defBody st) t ∧
        ∀ (scr : Scr), scr.l.length ≤ 63 → ∀ (B S0 : Hp) (Q : VK), (∀ (l : List Int) (G' : List Sl) S σ H F p q, l.length ≤ 63 → Kn K B S0 S σ H F G' → S p = none → B p = none → S q = none → B q = none → H p = some (.lst [.ref q, .int 0, .int 0]) → H q = some (.lst (l.map V.int)) → Q (.ref p) H) →
          At K B S0 (t { nx := fun _ H' => Q .non H', rt := Q }) (.im scr :: List.replicate (N.length - 1) .no)) :
    Cal P w K mg base (k + 1) x ps (spPen K) := by
  obtain ⟨fa, fd, m, Fu, b⟩ := D.ex
  refine ⟨fa, fd, m, Fu.ok S (fun vs H Q E ⟨S, a, _, r, _⟩ => (PyA.len r).trans hn) fun cdv A outer s H vs Q E hr ⟨S', a, e, r, hp, q⟩ => ?_, Fu.kp, b⟩
  obtain ⟨t, h1, h2⟩ := h fa cdv A outer s H E hr
  obtain ⟨scr, un⟩ := a
  refine ⟨t, h1, h2 scr hp H S' Q (fun l G' S1 σ1 H1 F1 p q' hl k1 a1 a2 a3 a4 a5 a6 => ?_) S' _ H _ (start_kn e r)⟩
  exact q l p q' S1 H1 ⟨k1.s0, k1.sub, k1.keep, k1.clean⟩ hl a2 a1 a4 a3 a5 a6
theorem q_retPen {xs : List Int} (h : EvL K te G xs G1) (k : ∀ S σ H F p q, Kn K B S0 S σ H F G1 → S p = none → B p = none → S q = none → B q = none → H p = some (.lst [.ref q, .int 0, .int 0]) → H q = some (.lst (xs.map V.int)) → D.rt (.ref p) H) :
    At K B S0 (tSeq (tRet (tLst (tCons te (tCons (tC (.int 0)) (tCons (tC (.int 0)) tNil))))) u D) G := fun S σ H F kn =>
  h B S0 S σ H F kn _ fun q vs S' H' e kn' hs hb hf hp r => ⟨by show 3 ≤ sizeLine; decide, fun p hn => by
    rw [r.ints] at hp
    have ne : q ≠ p := ne_of_none hp hn
    obtain ⟨a, b, c⟩ := kn'.free hn
    exact k S' σ _ F p q (kn'.raw hn) a b hs hb upd_same (by rw [upd_ne ne]; exact hp)⟩
theorem q_pen (i : Nat) {scr : Scr} (ha : EvA K t G (scr, ()) G1) (hp : scr.l.length ≤ 63) (hi : G1[i]?.isSome = true) (k : ∀ s : Pen, s.l.length ≤ 63 → At K B S0 (u D) (G1.set i (.ow s))) : At K B S0 (tSeq (tAsg (tCall (spPen K) [] E t) (gName i)) u D) G := fun S σ H F kn =>
  ha B S0 S σ H F kn _ fun vs S1 H1 e1 k1 r1 => by
    show spPen K (vs ++ []) H1 _ E
    rw [List.append_nil]
    refine ⟨S1, _, k1.sub, r1, hp, fun l p q S2 H2 g hl n1 n2 n3 n4 n5 n6 => ?_⟩
    obtain ⟨_, b, c⟩ := k1.free n1
    obtain ⟨_, b', c'⟩ := k1.free n3
    refine k ⟨p, q, l, 0, 0⟩ hl S2 _ H2 _ ((k1.grow g).setOwns (v := .ref p) (x := Pen.mk p q l 0 0) (ps := [p, q]) ⟨rfl, rfl, n5, n6⟩ hi fun x hx => ?_)
    rcases List.mem_cons.mp hx with e | e
    · rw [e]; exact ⟨n2, b, ⟨_, n5⟩, c⟩
    · rw [List.mem_singleton.mp e]; exact ⟨n4, b', ⟨_, n6⟩, c'⟩
end
/-! what a pen draws -/
def cellM (l : List Int) (p : Nat) : Int := if decide ((p : Int) < (l.length : Int)) = true then ix l (p : Int) else if decide (0 < (l.length : Int)) = true then ix l ((p : Int) * 5 % (l.length : Int)) % 1000003 + 89 * (p : Int) else 0
def oneM (c : Int) (p : Nat) : Int := (c % 1000000007 + 61 * (p : Int) + 1) * 16807 % 2147483647
def twoM (c : Int) (p : Nat) : Int := (oneM c p * oneM c p + 48271 * (p : Int) + 3) % 998244353
def drawM (c : Int) (p : Nat) : Int := if decide ((10 : Int) ^ (18 : Int).toNat ≤ c) = true then c / (10 : Int) ^ (18 : Int).toNat else (twoM c p * 1000000007 + (twoM c p * twoM c p + oneM c p) % 1000000007) / 32 + 1
def fillM (z : Pen) : Pen := if decide (z.w = 0) = true then ⟨z.a, z.q, z.l, z.p + 1, drawM (cellM z.l z.p) z.p⟩ else z
@[irreducible] def penTake (z : Pen) (m : Int) : Int × Pen := ((fillM z).w % m, ⟨(fillM z).a, (fillM z).q, (fillM z).l, (fillM z).p, (fillM z).w / m⟩)
theorem pen_bd (z : Pen) {m : Int} (h : 0 < m) : 0 ≤ (penTake z m).1 ∧ (penTake z m).1 < m := by
  unfold penTake
  exact ⟨Int.emod_nonneg _ (by omega), Int.emod_lt_of_pos _ h⟩
theorem pen_fp (z : Pen) (m : Int) : Anch.fp (penTake z m).2 = Anch.fp z := by
  unfold penTake fillM
  dsimp only [Anch.fp]
  split <;> rfl
theorem pen_ex {z z' : Pen} {m : Int} (e : z' = (penTake z m).2) (h : 0 < m) : ∃ d, (penTake z m).1 = d ∧ 0 ≤ d ∧ d < m ∧ Anch.fp z' = Anch.fp z := ⟨_, rfl, (pen_bd z h).1, (pen_bd z h).2, by rw [e]; exact pen_fp z m⟩
theorem pen_fact {z z' : Pen} {m : Int} (_ : z' = (penTake z m).2) (h : 0 < m) : 0 ≤ (penTake z m).1 ∧ (penTake z m).1 < m := pen_bd z h
end GL
namespace GL
open PySem PySem.Spec PyProof.Rows L2
abbrev spRP {α β : Type} [PyA α] [Py β] (K : Fg) (R : α → β → Prop) (pre : α → Prop) : Sp := spR (ω := Pen) K Pen R pre
section
variable {K : Fg} {B S0 : Hp} {G G1 : List Sl} {u : TS} {D : Ends} {α β : Type} [PyA α] [Py β] {R : α → β → Prop} {pre : α → Prop} {z z1 : Pen} {a : α} {t : TA} {E : XK} {g : TG}
theorem q_relP (j : Nat) (hj : G[j]? = some (.ow z)) (ha : EvA K t G a G1) (hj1 : G1[j]? = some (.ow z1)) (hp : pre a) (k : ∀ y (z' : Pen), R a y → Anch.fp z' = Anch.fp z1 → ∃ G2 ts, TgG K g y (G1.set j (.ow z')) G2 ts ∧ At K B S0 (u D) G2) :
    At K B S0 (tSeq (tAsg (tCall (spRP K R pre) [] E (tCons (tVar j) t)) g) u D) G := fun S σ H F kn => by
  obtain ⟨v0, h1, h2⟩ := kn.ow hj
  refine ⟨v0, h1, ha B S0 S σ H F kn _ fun vs S1 H1 e1 k1 r1 => ?_⟩
  show spRP K R pre (v0 :: vs ++ []) H1 _ E
  rw [List.append_nil]
  obtain ⟨v1, h3, h4⟩ := k1.ow hj1
  rw [h1] at h3
  cases h3
  refine ⟨S1, v0, vs, F j, z1, a, rfl, k1.sub, h4, fun p hp => ⟨(k1.off j p hp).1, (k1.off j p hp).2.2⟩, r1, hp, fun v S2 H2 y z' hR hfp s1 s2 hk hc hl ho r2 => ?_⟩
  have hH : ∀ p o, p ∉ F j → H1 p = some o → H2 p = some o := hk
  have k2 : Kn K B S0 S2 σ H2 F (G1.set j (.ow z')) := by
    refine ⟨k1.s0.trans s1, s2, fun p o e => ?_, fun p o e => (hc p o (k1.keep p o e)).trans (k1.clean p o e), fun i p hp => ?_, k1.dj, by rw [List.length_set]; exact k1.len, fun i s e => ?_⟩
    · exact hH p o (fun m => by rw [(k1.off j p m).2.1] at e; cases e) (k1.keep p o e)
    · obtain ⟨a1, a2, o, a3⟩ := k1.off i p hp
      refine ⟨(hc p o a3).trans a1, a2, ?_⟩
      by_cases m : p ∈ F j
      · exact hl p m
      · exact ⟨o, hH p o m a3⟩
    · rcases set_get e with ⟨rfl, rfl⟩ | ⟨ne, e⟩
      · exact ⟨v0, h1, ho⟩
      · have w := k1.sl i s e
        cases s with
        | no => exact True.intro
        | im y =>
          obtain ⟨u, b1, b2⟩ := w
          exact ⟨u, b1, Py.mono s1 b2⟩
        | ow y =>
          obtain ⟨u, b1, b2⟩ := w
          refine ⟨u, b1, Own.mono s1 (fun p hp => ?_) b2⟩
          obtain ⟨_, _, o, a3⟩ := k1.off i p hp
          rw [a3]
          exact hH p o (fun m => ne (k1.dj i j p hp m)) a3
  obtain ⟨G2, ts, tg, hat⟩ := k y z' hR hfp
  exact tg.2 B S0 S2 σ H2 F v k2 r2 _ fun σ' k3 _ _ => hat S2 σ' H2 F k3
end
section
variable {P : Program} {w : World} {K : Fg} {mg : Str → Option Value} {base : Heap} {α β : Type} [Sls α] [Py β]
theorem def_spRP {x : Str} {st : Stmt} {N ps : List Str} {k : Nat} {R : α → β → Prop} {pre : α → Prop} (D : Def K mg x st ps) (S : FnScope N ps (defScope st)) (hn : PyA.n α + 1 = ps.length)
    (h : ∀ (fa : Addr) (cdv : Value) (A : Around) (outer : List Env) (s : Shared) (H : Hp) (E : XK), Room k (A.deeper (envOfC x (defScope st) s.heap.objs.size fa cdv)) →
      ∃ t, PSs (cxOf CX0 P w K mg base N x (defScope st) fa cdv A outer s H E).nox (defBody st) t ∧
        ∀ (z : Pen) (a : α), pre a → ∀ (B S0 : Hp) (Q : VK), (∀ (G' : List Sl) (y : β) (z' : Pen), G'[0]? = some (.ow z') → Anch.fp z' = Anch.fp z → R a y → RT K B S0 Q y G') → At K B S0 (t { nx := fun _ H' => Q .non H', rt := Q }) (.ow z :: Sls.sls a ++ List.replicate (N.length - (PyA.n α + 1)) .no)) :
    Cal P w K mg base (k + 1) x ps (spRP K R pre) := by
  obtain ⟨fa, fd, m, Fu, b⟩ := D.ex
  refine ⟨fa, fd, m, Fu.ok S (fun vs H Q E ⟨S, v0, ws, qs, z, a, e, _, _, _, r, _⟩ => by rw [e, List.length_cons, PyA.len r]; exact hn) fun cdv A outer s H vs Q E hr ⟨S', v0, ws, qs, z, a, e, es, ho, hqs, r, hp, q⟩ => ?_, Fu.kp, b⟩
  subst e
  obtain ⟨t, h1, h2⟩ := h fa cdv A outer s H E hr
  refine ⟨t, h1, ?_⟩
  have kn := start_knM (N := N) es ho hqs r
  refine h2 z a hp _ S' Q (fun G' y z' hz hfp hR S1 σ1 H1 F1 v k1 r1 => ?_) S' _ H _ kn
  obtain ⟨v1, _, o1⟩ := k1.ow hz
  have ef : (v1, F1 0) = (v0, qs) := (Anch.at_ o1).trans (by rw [hfp]; exact (Anch.at_ ho).symm)
  have ev : v1 = v0 := congrArg Prod.fst ef
  have eF : F1 0 = qs := congrArg Prod.snd ef
  rw [ev, eF] at o1
  refine q v S1 H1 y z' hR hfp k1.s0 k1.sub (fun p o m e => k1.keep p o (by rw [if_neg m]; exact e)) (fun p o e => ?_) (fun p m => ?_) o1 r1
  · by_cases m : p ∈ qs
    · rw [(k1.off 0 p (by rw [eF]; exact m)).1, (hqs p m).1]
    · exact k1.clean p o (by rw [if_neg m]; exact e)
  · exact (k1.off 0 p (by rw [eF]; exact m)).2.2
end
end GL
namespace GL
theorem pen_cut {xs : List Int} {n : Nat} (h : xs.length ≤ n) (lo hi : Option Int) : (cutL xs lo hi).length ≤ n := by
  unfold cutL
  rw [List.length_take, List.length_drop]
  omega
theorem emod_bd (x : Int) {m : Int} (h : 0 < m) : 0 ≤ x % m ∧ x % m < m := ⟨Int.emod_nonneg _ (by omega), Int.emod_lt_of_pos _ h⟩
end GL

/-! A caught exception is tracked like any other settled thing: a try whose clause's suite may keep it. -/
namespace GL
open PySem PySem.Spec PyProof.Rows L2
/-- an exception's object, by its class -/
def excW (cls : Value) (d : Option Addr) (a : Addr) (h : Heap) : Prop := ∃ ob fs, h.get? a = some ob ∧ Zc cls d ob ∧ ob.data = .fields fs
abbrev excH (cls : Value) (d : Option Addr) (a : Addr) : HO := .ext (excW cls d a)
section
variable {X : Cx} {pins : List (Addr × Obj)} {σ : L2.St} {H : Hp}
theorem exc_ok {P : Program} {w : World} {H : Hp} {cls : Value} {d : Option Addr} {a : Addr} {h : Heap} (x : excW cls d a h) : ObjOk P w H h a (excH cls d a) := by
  refine ⟨x, ?_, fun h1 h2 ⟨ob, fs, e1, e2, e3⟩ k => ⟨ob, fs, k _ e1, e2, e3⟩⟩
  obtain ⟨ob, _, e, _⟩ := x
  exact ⟨ob, e⟩
/-- the state behind a landing, with the exception tracked -/
theorem inv_exc {B : Heap} {sI s' : Shared} {cls : Value} {d : Option Addr} {a : Addr} (I : Inv X pins σ H sI) (ground : ∀ b o, sI.heap.get? b = some o → b ∉ frs X.stack → B.get? b = some o) (stays : B.StaysIn s'.heap) (slots : sI.heap.UpToSlots s'.heap)
    (eo : s'.os = sI.os) (eg : AllBare s'.gens) (nB : B.get? a = none) (nS : a ∉ frs X.stack) (x : excW cls d a s'.heap) (na : H a = none) : Inv X pins σ (upd H a (excH cls d a)) s' := by
  have noI : sI.heap.get? a = none := by
    cases e : sI.heap.get? a with
    | none => rfl
    | some o => rw [ground a o e nS] at nB; cases nB
  obtain ⟨G, g1, g2⟩ := restrict s'.heap fun b => !decide (b = a)
  have gIn : ∀ b, b ≠ a → G.get? b = s'.heap.get? b := fun b ne => g1 b (by rw [decide_eq_false ne]; rfl)
  have gNo : G.get? a = none := g2 a (by rw [decide_eq_true rfl]; rfl)
  have J : Inv X pins σ H { s' with heap := G } := by
    refine Inv.landed I ground (fun b o e => ?_) (fun b o e nf => ?_) eo eg
    · have ne : b ≠ a := fun z => by rw [z, nB] at e; cases e
      exact (gIn b ne).trans (stays b o e)
    · have ne : b ≠ a := fun z => by rw [z, noI] at e; cases e
      obtain ⟨sl, q⟩ := slots b o e nf
      exact ⟨sl, (gIn b ne).trans q⟩
  have sub : ∀ b u, G.get? b = some u → s'.heap.get? b = some u := fun b u e => by
    have ne : b ≠ a := fun z => by rw [z, gNo] at e; cases e
    rw [gIn b ne] at e
    exact e
  exact J.laidN (t' := s'.toks) sub gNo na (exc_ok x)
/-- an except suite's state, nothing pinned anew -/
theorem inv_suite {s : Shared} {a : Addr} (I : Inv X pins σ H s) : Inv (X.suite a (X.pn ++ pins)) [] σ H s :=
  ⟨I.ok.suite a _, I.os, I.bare, I.base, I.loc, I.cell, I.free, I.freeC, fun p hp => I.pin p (by simpa using hp), I.hok, I.len⟩
theorem inv_unsuite {s : Shared} {a : Addr} {more : List (Addr × Obj)} (I : Inv (X.suite a (X.pn ++ pins)) more σ H s) (ok : X.Ok) : Inv X pins σ H s :=
  ⟨ok, I.os, I.bare, I.base, I.loc, I.cell, I.free, I.freeC, fun p hp => I.pin p (List.mem_append_left more hp), I.hok, I.len⟩
end
/-- the suite's ends: the clause's name goes -/
def noSlot (i : Nat) (D : Ends) : Ends := { nx := fun σ H => D.nx (σ.set i none) H, rt := D.rt, bk := fun σ H => D.bk (σ.set i none) H, ct := fun σ H => D.ct (σ.set i none) H }
/-- what a clause 'except c as n' wishes of an exception of the body: it is met, the exception kept -/
def wKeep (K : Fg) (c : Value) (i : Nat) (ts : TS) (D : Ends) : WX := fun cls d σ H =>
  PySem.W.exmOne K cls c = some true ∧ ∀ a, H a = none → ts (noSlot i D) (σ.set i (some (.ref a))) (upd H a (excH cls d a))
/-- .. 'except c' without a name -/
def wKeep0 (K : Fg) (c : Value) (ts : TS) (D : Ends) : WX := fun cls d σ H => PySem.W.exmOne K cls c = some true ∧ ∀ a, H a = none → ts D σ (upd H a (excH cls d a))
theorem frame_off {B h : Heap} {l : List Env} {a : Addr} {ob : Obj} {fs : Array Value} (ff : h.FunFrames B l) (e : h.get? a = some ob) (ed : ob.data = .fields fs) : a ∉ frs l := fun hm => by
  obtain ⟨_, ob2, e2, nf⟩ := ff.mem hm
  rw [e, Option.some.injEq] at e2
  exact nf fs (e2 ▸ ed)
section
variable {X : Cx} {x n : Str} {c : Value} {i : Nat} {body suite : List Stmt} {st0 : Stmt} {p1 p2 p3 : Pos} {tb : WX → TS} {ts : TS} {pins : List (Addr × Obj)} {D : Ends} {s' : Shared}
/-- an exception out of the body, landed: the state, and how it looks -/
structure Landed (X : Cx) (pins : List (Addr × Obj)) (B : Heap) (σ : L2.St) (H : Hp) (cls : Value) (d : Option Addr) (a : Addr) (s : Shared) : Prop where
  fly : HandSPX.FlyingZ B (X.env :: X.outer) a (Zc cls d) s.heap
  inv : Inv X pins σ (upd H a (excH cls d a)) s
theorem landed_at {B : Heap} {sI s : Shared} {σ : L2.St} {H : Hp} {cls : Value} {d : Option Addr} {a : Addr} (es : X.stack = X.env :: X.outer) (J : Inv X pins σ H sI) (nb : ∀ b o, sI.heap.get? b = some o → b ∉ frs X.stack → B.get? b = some o)
    (up : sI.heap.UpToSlots s.heap) (eo : s.os = sI.os) (eg : AllBare s.gens) (na : H a = none) (fly : HandSPX.FlyingZ B (X.env :: X.outer) a (Zc cls d) s.heap) : Landed X pins B σ H cls d a s := by
  obtain ⟨ob, fs, e, ez, ed⟩ := fly.there
  refine ⟨fly, inv_exc J nb fly.1 up eo eg fly.2.1 ?_ ⟨ob, fs, e, ez, ed⟩ na⟩
  rw [es]
  exact frame_off fly.2.2.1 e ed
/-- the class that the clause names matches -/
theorem Landed.test {B : Heap} {s : Shared} {σ : L2.St} {H : Hp} {cls : Value} {d : Option Addr} {a : Addr} {Q : Bool → Shared → Prop} {E : Value → Shared → Prop} (l : Landed X pins B σ H cls d a s) (hc : Names X x c) (hm : PySem.W.exmOne X.K cls c = some true) (q : Q true s) :
    wpAny (model X.prog X.w) (X.A.mark (some (.ref a))) (eval (.Name x p1) X.env) (fun v s1 => wpAny (model X.prog X.w) (X.A.mark (some (.ref a))) (excMatches (.ref a) v) Q E s1) E s := by
  obtain ⟨ob, fs, e, ez, ed⟩ := l.fly.there
  have lt : PySem.W.Looks (model X.prog X.w) s.heap (typeOf (.ref a)) cls := fun A Q E s2 k q2 => wpAny_typeOf_ref (k _ _ e) (ez.1 ▸ q2)
  have lm := PySem.W.exm_one (M := model X.prog X.w) l.inv.kIn lt hm
  have in_ := inv_suite (a := a) l.inv
  obtain ⟨gl, db, kn | ⟨kn, kb, knm⟩⟩ := hc
  · exact ld_glob in_ gl kn (lm.here q) db
  · exact ld_blt in_ gl kn kb (lm.here q) knm db
theorem ps_try_keep (es : X.stack = X.env :: X.outer) (ef : X.env.frame = some X.env.locals) (hN : X.N.Nodup) (hi : X.N[i]? = some n) (hl : X.env.kindOf n = some .local) (hc : Names X x c)
    (hb : ∀ (W : WX) (pn : List (Addr × Obj)) (xe : Value → Shared → Prop), Takes (X.tr pn xe) W → PassesOwn (model X.prog X.w) X.A X.env xe → PSs (X.tr pn xe) body (tb W))
    (hs : ∀ (a : Addr) (pn : List (Addr × Obj)), PSs (X.suite a pn) (st0 :: suite) ts) :
    PS X (.Try body [.ExceptHandler (some (.Name x p1)) (some n) (st0 :: suite) p2] [] [] p3) (fun D σ H => tb (wKeep X.K c i ts D) D σ H) := ⟨fun pins s σ H D I h => by
  have ok := I.ok
  have fr : X.A.frames = some (X.env :: X.outer) := ok.frames.trans (congrArg some es)
  have bodyRun := fun xe tk po => (hb (wKeep X.K c i ts D) (X.pn ++ pins) xe tk po).run [] s σ H D (I.toTry xe) h
  refine wpAny_Try_except (wpAny_mono (bodyRun _ (fun u s' xx => ?_) PassesOwn.looking) (fun f s1 hf => ?_) fun _ _ z => z)
  · obtain ⟨a, B, sI, pins', σ', H', cls, d, eu, J', nb, up, sky, na, eo, eg, hm, hyes⟩ := xx
    subst eu
    have J := J'.ofTry ok
    rw [show (X.tr (X.pn ++ pins) _).stack = X.env :: X.outer from es] at sky
    refine Sky.land Zc.steady fr ef sky fun h3 fl3 up3 => ?_
    have l3 := landed_at (s := { s' with heap := h3 }) es J nb (up.trans up3) eo eg na fl3
    refine wpAny_handleBy_cons (codeAny_handlers_test (l3.test hc hm ?_)) fun z => nomatch z
    refine codeAny_handlers_suite_as (HandSPX.lands_againZ fl3 fun h4 fl4 up4 => ?_)
    have l4 := landed_at (s := { s' with heap := h4 }) es J nb ((up.trans up3).trans up4) eo eg na fl4
    refine store_ok (X := X.suite a (X.pn ++ pins)) (v := .ref a) (inv_suite l4.inv) hN hi (.inl hl) rfl (fun s5 I5 => wpAny_mono ((hs a (X.pn ++ pins)).run [] s5 _ _ _ I5 (hyes a na)) (fun f s6 hsp => ?_) fun _ _ z => z.elim) (.inr hl)
    have go : ∀ {σ6 : L2.St} {H6 : Hp} {Q : Shared → Prop}, Inv (X.suite a (X.pn ++ pins)) [] σ6 H6 s6 → (∀ s7, Inv X pins (σ6.set i none) H6 s7 → Q s7) → wpAny (model X.prog X.w) X.A (do bindName X.env n .none; unbindBehindTheSuite X.env n p2) (fun _ s7 => Q s7) X.xe s6 := fun I6 q => gone_ok (inv_unsuite I6 ok) hN hi hl q
    cases f with
    | ret u =>
      obtain ⟨v6, σ6, H6, I6, r6, q6⟩ := hsp
      exact go I6 fun s7 I7 => ⟨v6, _, H6, I7, r6, q6⟩
    | next => obtain ⟨σ6, H6, I6, q6⟩ := hsp; exact go I6 fun s7 I7 => ⟨_, H6, I7, q6⟩
    | brk => obtain ⟨σ6, H6, I6, q6⟩ := hsp; exact go I6 fun s7 I7 => ⟨_, H6, I7, q6⟩
    | cont => obtain ⟨σ6, H6, I6, q6⟩ := hsp; exact go I6 fun s7 I7 => ⟨_, H6, I7, q6⟩
  · cases f with
    | ret u => obtain ⟨v1, σ1, H1, I1, r1, q1⟩ := hf; exact ⟨v1, σ1, H1, I1.ofTry ok, r1, q1⟩
    | next => obtain ⟨σ1, H1, I1, q1⟩ := hf; exact wpAny_execs_nil ⟨σ1, H1, I1.ofTry ok, q1⟩
    | brk => obtain ⟨σ1, H1, I1, q1⟩ := hf; exact ⟨σ1, H1, I1.ofTry ok, q1⟩
    | cont => obtain ⟨σ1, H1, I1, q1⟩ := hf; exact ⟨σ1, H1, I1.ofTry ok, q1⟩⟩
theorem ps_try_keep0 (es : X.stack = X.env :: X.outer) (ef : X.env.frame = some X.env.locals) (hc : Names X x c)
    (hb : ∀ (W : WX) (pn : List (Addr × Obj)) (xe : Value → Shared → Prop), Takes (X.tr pn xe) W → PassesOwn (model X.prog X.w) X.A X.env xe → PSs (X.tr pn xe) body (tb W))
    (hs : ∀ (a : Addr) (pn : List (Addr × Obj)), PSs (X.suite a pn) (st0 :: suite) ts) :
    PS X (.Try body [.ExceptHandler (some (.Name x p1)) none (st0 :: suite) p2] [] [] p3) (fun D σ H => tb (wKeep0 X.K c ts D) D σ H) := ⟨fun pins s σ H D I h => by
  have ok := I.ok
  have fr : X.A.frames = some (X.env :: X.outer) := ok.frames.trans (congrArg some es)
  have bodyRun := fun xe tk po => (hb (wKeep0 X.K c ts D) (X.pn ++ pins) xe tk po).run [] s σ H D (I.toTry xe) h
  refine wpAny_Try_except (wpAny_mono (bodyRun _ (fun u s' xx => ?_) PassesOwn.looking) (fun f s1 hf => ?_) fun _ _ z => z)
  · obtain ⟨a, B, sI, pins', σ', H', cls, d, eu, J', nb, up, sky, na, eo, eg, hm, hyes⟩ := xx
    subst eu
    have J := J'.ofTry ok
    rw [show (X.tr (X.pn ++ pins) _).stack = X.env :: X.outer from es] at sky
    refine Sky.land Zc.steady fr ef sky fun h3 fl3 up3 => ?_
    have l3 := landed_at (s := { s' with heap := h3 }) es J nb (up.trans up3) eo eg na fl3
    refine wpAny_handleBy_cons (codeAny_handlers_test (l3.test hc hm ?_)) fun z => nomatch z
    refine codeAny_handlers_suite (HandSPX.lands_againZ fl3 fun h4 fl4 up4 => ?_)
    have l4 := landed_at (s := { s' with heap := h4 }) es J nb ((up.trans up3).trans up4) eo eg na fl4
    refine wpAny_mono ((hs a (X.pn ++ pins)).run [] _ _ _ _ (inv_suite (a := a) l4.inv) (hyes a na)) (fun f s6 hsp => ?_) fun _ _ z => z.elim
    cases f with
    | ret u => obtain ⟨v6, σ6, H6, I6, r6, q6⟩ := hsp; exact ⟨v6, σ6, H6, inv_unsuite I6 ok, r6, q6⟩
    | next => obtain ⟨σ6, H6, I6, q6⟩ := hsp; exact ⟨_, H6, inv_unsuite I6 ok, q6⟩
    | brk => obtain ⟨σ6, H6, I6, q6⟩ := hsp; exact ⟨_, H6, inv_unsuite I6 ok, q6⟩
    | cont => obtain ⟨σ6, H6, I6, q6⟩ := hsp; exact ⟨_, H6, inv_unsuite I6 ok, q6⟩
  · cases f with
    | ret u => obtain ⟨v1, σ1, H1, I1, r1, q1⟩ := hf; exact ⟨v1, σ1, H1, I1.ofTry ok, r1, q1⟩
    | next => obtain ⟨σ1, H1, I1, q1⟩ := hf; exact wpAny_execs_nil ⟨σ1, H1, I1.ofTry ok, q1⟩
    | brk => obtain ⟨σ1, H1, I1, q1⟩ := hf; exact ⟨σ1, H1, I1.ofTry ok, q1⟩
    | cont => obtain ⟨σ1, H1, I1, q1⟩ := hf; exact ⟨σ1, H1, I1.ofTry ok, q1⟩⟩
end
end GL

set_option maxHeartbeats 4000000
namespace L2
open PySem PySem.Spec PyProof.Rows GL
/-- a >= b of two pairs of whole numbers -/
def rGe2 (K : PySem.W.Frag) : R2 := fun x y H Q => ∃ m n m' n' : Int, TupI K H x [m, n] ∧ TupI K H y [m', n'] ∧ Q (.bl (le2b (m', n') (m, n))) H
theorem pair_items {X : Cx} {pins : List (Addr × Obj)} {s : Shared} {σ : L2.St} {H : Hp} {a : Addr} {m n : Int} (I : Inv X pins σ H s) (h : SqT X.K H a ([m, n].map V.int)) : ∃ t u : Tok, s.heap.IsTuple a #[.int m t, .int n u] := by
  obtain ⟨its, r, p, _⟩ := I.tuple h
  have i : IntsAre its [m, n] := Vals.ints r
  cases i with
  | cons _ t1 r =>
    cases r with
    | cons _ t2 r =>
      cases r
      exact ⟨t1, t2, p⟩
theorem eqAt_int {A : Around} {s : Shared} (x y : Int) (t u : Tok) : SeqAt.EqAt A s (.int x t) (.int y u) (decide (x = y)) := by
  have z : (x == y) = decide (x = y) := by
    by_cases q : x = y
    · rw [decide_eq_true q]; exact beq_iff_eq.mpr q
    · rw [decide_eq_false q]; exact beq_eq_false_iff_ne.mpr q
  rw [← z]
  exact SeqAt.EqAt.int_int _ _ _ _
theorem op_ge2 {X : Cx} (hu0 : X.A.units + 64 < cLine) : OpR X (compareOp .GtE) (rGe2 X.K) := by
  have hu : X.A.units < cLine := by omega
  intro pins s σ H x y v u Q I rx ry h
  obtain ⟨m, n, m', n', ⟨a, rfl, ha⟩, ⟨b, rfl, hb⟩, q⟩ := h
  cases rx
  cases ry
  obtain ⟨t1, t2, p1⟩ := pair_items I ha
  obtain ⟨u1, u2, p2⟩ := pair_items I hb
  have R := Ob.RcOp.tuples_ge (A := X.A) (s := s) (e := fun j => if j = 0 then decide (m = m') else decide (n = n')) (r := fun j => if j = 0 then decide (m' ≤ m) else decide (n' ≤ n)) p1 p2 hu (fun j h1 h2 => by
    match j, h1, h2 with
    | 0, _, _ => exact eqAt_int m m' t1 u1
    | 1, _, _ => exact eqAt_int n n' t2 u2
    | j + 2, h1, _ => exact absurd h1 (by simp)) (fun j h1 h2 _ => by
    match j, h1, h2 with
    | 0, _, _ => exact Ob.RcOp.ge_int m m' t1 u1
    | 1, _, _ => exact Ob.RcOp.ge_int n n' t2 u2
    | j + 2, h1, _ => exact absurd h1 (by simp))
  have e : Ob.lexAt (fun j => if j = 0 then decide (m = m') else decide (n = n')) (fun j => if j = 0 then decide (m' ≤ m) else decide (n' ≤ n)) (decide ((#[Value.int m t1, Value.int n t2] : Array Value).size ≥ (#[Value.int m' u1, Value.int n' u2] : Array Value).size)) 0 (min (#[Value.int m t1, Value.int n t2] : Array Value).size (#[Value.int m' u1, Value.int n' u2] : Array Value).size) = le2b (m', n') (m, n) := by
    show Ob.lexAt _ _ _ 0 2 = _
    rw [Ob.lexAt_succ, Ob.lexAt_succ, Ob.lexAt_zero]
    unfold le2b
    simp only [if_true, show ((0 + 1 : Nat) = 0) = False by simp, if_false, decide_eq_true_eq]
    by_cases c1 : m = m'
    · rw [if_pos c1]
      by_cases c2 : n = n'
      · rw [if_pos c2]; simp [c1, c2]
      · rw [if_neg c2]; simp [c1]
    · rw [if_neg c1]
      by_cases c2 : m' ≤ m
      · rw [decide_eq_true c2, decide_eq_true (show m' < m by omega)]; rfl
      · rw [decide_eq_false c2, decide_eq_false (show ¬ m' < m by omega), decide_eq_false (show ¬ m' = m by omega)]; rfl
  rw [e] at R
  have z : wpAny (model X.prog X.w) X.A (compareOp .GtE (.ref a) (.ref b)) (EP X pins σ Q) X.xe s := R X.prog X.w X.xe (EP X pins σ Q) ⟨.bl _, H, I, rfl, q⟩
  exact z
end L2
namespace GL
open PySem PySem.Spec PyProof.Rows L2
section
variable {K : Fg} {G G1 G2 : List Sl} {ta tb : TE}
theorem ev_ge2 {p q : Int × Int} (ha : EvX K ta G p G1) (hb : EvX K tb G1 q G2) : EvX K (tOp (rGe2 K) ta tb) G (le2b q p) G2 := fun B S0 S σ H F k Q c =>
  ha B S0 S σ H F k _ fun v S1 H1 e1 k1 r1 => hb B S0 S1 σ H1 F k1 _ fun u S2 H2 e2 k2 r2 => by
    have r1' := Py.mono e2 r1
    exact ⟨p.1, p.2, q.1, q.2, rep2 k2.sub r1', rep2 k2.sub r2, c _ S2 H2 (e1.trans e2) k2 rfl⟩
/-- xs[-1] -/
def lastI {α : Type} [Inhabited α] (xs : List α) : α := ix xs ((xs.length : Int) - 1)
theorem ev_last {α : Type} [Py α] [Inhabited α] {xs : List α} (ha : EvX K ta G xs G1) (hb : EvX K tb G1 (-1) G2) (h : 0 < xs.length) : EvX K (tOp (rIxL K) ta tb) G (lastI xs) G2 := fun B S0 S σ H F k Q q =>
  ha B S0 S σ H F k _ fun v S1 H1 e1 k1 r1 => hb B S0 S1 σ H1 F k1 _ fun u S2 H2 e2 k2 r2 => by
    obtain ⟨p, vs, rfl, hp, hr⟩ := Py.mono e2 r1
    obtain ⟨w, h1, h2⟩ := hr.get (ix_at (xs := xs) (i := (xs.length : Int) - 1) (by omega) (by omega))
    have hl := hr.len
    have e : atI vs (-1) = some w := by
      obtain ⟨init, last, rfl⟩ : ∃ init last, vs = init ++ [last] := by
        rcases List.eq_nil_or_concat vs with q | ⟨i, l, q⟩
        · rw [q] at hl; simp at hl; omega
        · exact ⟨i, l, by rw [q]; simp⟩
      rw [List.length_append, List.length_singleton] at hl
      rw [show ((xs.length : Int) - 1).toNat = init.length by omega, List.getElem?_append_right (Nat.le_refl _), Nat.sub_self] at h1
      have e1 : last = w := Option.some.inj h1
      rw [← e1]
      exact atI_last init last
    exact ⟨p, vs, -1, w, rfl, r2, SqL.of (k2.sub _ _ hp), e, q w S2 H2 (e1.trans e2) k2 h2⟩
end
end GL

set_option maxHeartbeats 4000000
namespace GL
open PySem PySem.Spec PyProof.Rows L2
section
variable {K : Fg} {B S0 : Hp} {G G1 G2 : List Sl} {ta tb tc te : TE} {i j : Nat} {u : TS} {E : Ends}
/-- while, by a word that its turns keep -/
theorem qg_whI {τ : Type} {tt : TT} {tb : TS} (γ : τ → List Sl) (c : τ → Bool) (s0 : τ) (I : τ → Prop) (μ : τ → Nat) (h0 : Le (γ s0) G) (hI : I s0) (hc : ∀ s, I s → EvT K tt (γ s) (c s) (γ s))
    (hs : ∀ s, I s → c s = true → ∀ S1, Reb B S0 S1 → At K B S1 (tb { E with nx := Mid K B S1 (fun G' => ∃ s', G' = γ s' ∧ I s' ∧ μ s' < μ s), ct := Mid K B S1 (fun G' => ∃ s', G' = γ s' ∧ I s' ∧ μ s' < μ s), bk := u E }) (γ s))
    (hd : ∀ s, I s → c s = false → ∀ S1, Reb B S0 S1 → At K B S1 (u E) (γ s)) : At K B S0 (tSeq (tWhile tt tb) u E) G := by
  refine at_le h0 (q_while (fun m Gi => ∃ s, Gi = γ s ∧ I s ∧ μ s = m) (μ s0) ⟨s0, rfl, hI, rfl⟩ fun m Gi ⟨s, e, p, q⟩ S1 rb => ?_)
  subst e
  refine ⟨c s, hc s p, fun hb => ?_, fun hb => hd s p hb S1 rb⟩
  have h := hs s p hb S1 rb
  have e : (fun G' => ∃ m', m' < m ∧ ∃ s', G' = γ s' ∧ I s' ∧ μ s' = m') = (fun G' => ∃ s', G' = γ s' ∧ I s' ∧ μ s' < μ s) := by
    funext G'
    apply propext
    constructor
    · rintro ⟨m', h1, s', h2, h3, h4⟩
      exact ⟨s', h2, h3, by omega⟩
    · rintro ⟨s', h2, h3, h4⟩
      exact ⟨μ s', by omega, s', h2, h3, rfl⟩
  rw [e]
  exact h
end
end GL

set_option maxHeartbeats 4000000
namespace GL
open PySem PySem.Spec PyProof.Rows L2
section
variable {K : Fg} {G : List Sl} {i j : Nat}
/-- those that a test picks, which turns a state -/
def pickX {τ α β : Type} (f : τ → α → Bool) (e : α → β) (step : τ → α → τ) (xs : List α) (s0 : τ) : List β × τ := xs.foldl (fun (a : List β × τ) x => (if f a.2 x = true then a.1 ++ [e x] else a.1, step a.2 x)) ([], s0)
theorem pickX_gen {τ α β : Type} (f : τ → α → Bool) (e : α → β) (step : τ → α → τ) : ∀ (xs : List α) (a : List β) (s : τ), ∃ ys : List α, List.Sublist ys xs ∧ (xs.foldl (fun (a : List β × τ) x => (if f a.2 x = true then a.1 ++ [e x] else a.1, step a.2 x)) (a, s)) = (a ++ ys.map e, xs.foldl step s)
  | [], a, s => ⟨[], List.Sublist.slnil, by simp⟩
  | x :: xs, a, s => by
    obtain ⟨ys, h1, h2⟩ := pickX_gen f e step xs (if f s x = true then a ++ [e x] else a) (step s x)
    rw [List.foldl_cons, List.foldl_cons]
    dsimp only
    rw [h2]
    by_cases h : f s x = true
    · exact ⟨x :: ys, h1.cons₂ x, by rw [if_pos h, List.map_cons, List.append_assoc]; rfl⟩
    · exact ⟨ys, h1.cons x, by rw [if_neg h]⟩
theorem pickX_sub {τ α β : Type} (f : τ → α → Bool) (e : α → β) (step : τ → α → τ) (xs : List α) (s : τ) : ∃ ys : List α, List.Sublist ys xs ∧ pickX f e step xs s = (ys.map e, xs.foldl step s) := by
  obtain ⟨ys, h1, h2⟩ := pickX_gen f e step xs [] s
  exact ⟨ys, h1, by unfold pickX; rw [h2, List.nil_append]⟩
theorem el_lcT {α β τ : Type} [Py α] [Py β] {wi : TI} {g : TG} {te : TE} {tt : TT} {vs : List Nat} {xs : List α} (γ : τ → List Sl) (s0 : τ) (step : τ → α → τ) (f : τ → α → Bool) (e : α → β) (hi : ItG K wi G xs (γ s0)) (hl : xs.length ≤ 1000000)
    (hs : ∀ x s, x ∈ xs → ∃ G2 ts, TgG K g x (wipeG (γ s) vs) G2 ts ∧ (∀ t ∈ ts, t ∈ vs) ∧ ∃ G4, EvT K tt G2 (f s x) G4 ∧ (f s x = true → EvX K te G4 (e x) G4) ∧ Bk vs 0 (γ (step s x)) G4 (γ s)) :
    EvL K (tLc wi g tt te vs) G (pickX f e step xs s0).1 (γ (xs.foldl step s0)) :=
  el_lcX (K := K) (wi := wi) (g := g) (tt := tt) (te := te) (vs := vs) (G := G) γ s0 step f (fun _ x => e x) hi hl fun pre x post ex s hs' => by
    obtain ⟨G2, ts, tg, hts, G4, ht, he, bk⟩ := hs x s (by rw [← ex]; exact List.mem_append_right _ List.mem_cons_self)
    refine ⟨G2, ts, tg, hts, G4, G4, ht, he, fun _ => rfl, fun j sl hj => ?_, bk.len⟩
    have := bk.get j sl hj
    rw [Nat.zero_add] at this
    exact this
end
section
variable {K : Fg} {B S0 : Hp} {G G1 G2 G3 : List Sl} {ta tb tc : TE} {u : TS} {E : Ends}
/-- return of three, the first a new list -/
theorem q_ret3L {δ β γ : Type} [Py δ] [Py β] [PyF β] [PyT β] [Py γ] [PyF γ] [PyT γ] {xs : List δ} {y : β} {z : γ} (h : EvL K ta G xs G1) (hb : EvX K tb G1 y G2) (hc : EvX K tc G2 z G3) (k : RT K B S0 E.rt (Fx.mk B (T3.mk xs y z)) G3) : At K B S0 (tSeq (tRet (tTup (tCons ta (tCons tb (tCons tc tNil))))) u E) G := fun S σ H F kn =>
  h B S0 S σ H F kn _ fun p vs S' H' e kn' hs hb' hf hp r => by
    have k2 := kn'.settle hp hs hb' hf
    refine hb B S0 _ σ H' F k2 _ fun v S2 H2 e2 k3 r2 => hc B S0 S2 σ H2 F k3 _ fun w S3 H3 e3 k4 r3 => ⟨by show 3 ≤ sizeLine; decide, fun l hl => ?_⟩
    have e4 := same_new (o := .tup [.ref p, v, w]) (k4.free hl).1
    have r1 : PyF.repF K B (upd S' p (.lst vs)) (.ref p) xs := ⟨⟨p, vs, rfl, upd_same, r.mono (same_new hs)⟩, p, rfl, hb'⟩
    exact k _ σ _ F (.ref l) (k4.new hl) ⟨l, .ref p, v, w, rfl, SqT.of upd_same, PyF.mono ((e2.trans e3).trans e4) r1, PyF.mono (e3.trans e4) (PyT.of r2), PyF.mono e4 (PyT.of r3)⟩
end
end GL

/-! Data of any shape; lists of two unlike things; pop at a place. -/
namespace GL
open PySem PySem.Spec PyProof.Rows L2
inductive Dat
  | non
  | int (i : Int)
  | bl (b : Bool)
  | str (s : Str)
  | tup (l : List Dat)
  | lst (l : List Dat)
mutual
inductive DRep (K : Fg) (S : Hp) : V → Dat → Prop
  | non : DRep K S .non .non
  | int (i : Int) : DRep K S (.int i) (.int i)
  | bl (b : Bool) : DRep K S (.bl b) (.bl b)
  | str (s : Str) : DRep K S (.str s) (.str s)
  | tup {p : Addr} {vs : List V} {l : List Dat} : SqT K S p vs → DRepL K S vs l → DRep K S (.ref p) (.tup l)
  | lst {p : Addr} {vs : List V} {l : List Dat} : S p = some (.lst vs) → DRepL K S vs l → DRep K S (.ref p) (.lst l)
inductive DRepL (K : Fg) (S : Hp) : List V → List Dat → Prop
  | nil : DRepL K S [] []
  | cons {v : V} {d : Dat} {vs : List V} {l : List Dat} : DRep K S v d → DRepL K S vs l → DRepL K S (v :: vs) (d :: l)
end
mutual
theorem DRep.mono {K : Fg} {S S' : Hp} (e : Same S S') : ∀ {v : V} {d : Dat}, DRep K S v d → DRep K S' v d
  | _, _, .non => .non
  | _, _, .int i => .int i
  | _, _, .bl i => .bl i
  | _, _, .str i => .str i
  | _, _, .tup h r => .tup (seqT e h) (DRepL.mono e r)
  | _, _, .lst h r => .lst (e _ _ h) (DRepL.mono e r)
theorem DRepL.mono {K : Fg} {S S' : Hp} (e : Same S S') : ∀ {vs : List V} {l : List Dat}, DRepL K S vs l → DRepL K S' vs l
  | _, _, .nil => .nil
  | _, _, .cons h r => .cons (DRep.mono e h) (DRepL.mono e r)
end
instance : Py Dat := ⟨fun K S v d => DRep K S v d, fun e h => h.mono e⟩
theorem DRepL.rep {K : Fg} {S : Hp} : ∀ {vs : List V} {l : List Dat}, DRepL K S vs l → RepL K S vs l
  | _, _, .nil => True.intro
  | _, _, .cons h r => ⟨h, DRepL.rep r⟩
theorem RepL.drep {K : Fg} {S : Hp} : ∀ {vs : List V} {l : List Dat}, RepL K S vs l → DRepL K S vs l
  | [], [], _ => .nil
  | _ :: _, _ :: _, h => .cons h.1 (RepL.drep h.2)
  | [], _ :: _, h => h.elim
  | _ :: _, [], h => h.elim
/-- at most so deep, lists not too long -/
inductive DLe : Nat → Dat → Prop
  | non {k : Nat} : DLe k .non
  | int {k : Nat} {i : Int} : DLe k (.int i)
  | bl {k : Nat} {i : Bool} : DLe k (.bl i)
  | str {k : Nat} {i : Str} : DLe k (.str i)
  | tup {k : Nat} {l : List Dat} : l.length ≤ 1000000 → (∀ x ∈ l, DLe k x) → DLe (k + 1) (.tup l)
  | lst {k : Nat} {l : List Dat} : l.length ≤ 1000000 → (∀ x ∈ l, DLe k x) → DLe (k + 1) (.lst l)
/-- kinds that are data -/
class ToD (α : Type) [Py α] where
  dat : α → Dat
  of : ∀ {K : Fg} {S : Hp} {v : V} {x : α}, Py.rep K S v x → DRep K S v (dat x)
instance : ToD Int := ⟨.int, fun h => by rw [show _ = V.int _ from h]; exact .int _⟩
instance : ToD Bool := ⟨.bl, fun h => by rw [show _ = V.bl _ from h]; exact .bl _⟩
instance : ToD Str := ⟨.str, fun h => by rw [show _ = V.str _ from h]; exact .str _⟩
instance : ToD Unit := ⟨fun _ => .non, fun h => by rw [show _ = V.non from h]; exact .non⟩
instance : ToD Dat := ⟨fun d => d, fun h => h⟩
section
variable {α β γ : Type} [Py α] [Py β] [Py γ] [ToD α] [ToD β] [ToD γ]
theorem RepL.toD {K : Fg} {S : Hp} : ∀ {vs : List V} {l : List α}, RepL K S vs l → DRepL K S vs (l.map ToD.dat)
  | [], [], _ => .nil
  | _ :: _, _ :: _, h => .cons (ToD.of h.1) (RepL.toD h.2)
  | [], _ :: _, h => h.elim
  | _ :: _, [], h => h.elim
instance : ToD (List α) := ⟨fun l => .lst (l.map ToD.dat), fun ⟨p, vs, h1, h2, h3⟩ => by rw [h1]; exact .lst h2 h3.toD⟩
instance : ToD (Tp α) := ⟨fun l => .tup (l.l.map ToD.dat), fun ⟨p, vs, h1, h2, h3⟩ => by rw [h1]; exact .tup h2 h3.toD⟩
instance : ToD (α × β) := ⟨fun x => .tup [ToD.dat x.1, ToD.dat x.2], fun ⟨p, a, b, h1, h2, h3, h4⟩ => by rw [h1]; exact .tup h2 (.cons (ToD.of h3) (.cons (ToD.of h4) .nil))⟩
instance : ToD (T3 α β γ) := ⟨fun x => .tup [ToD.dat x.a, ToD.dat x.b, ToD.dat x.c], fun ⟨p, a, b, c, h1, h2, h3, h4, h5⟩ => by rw [h1]; exact .tup h2 (.cons (ToD.of h3) (.cons (ToD.of h4) (.cons (ToD.of h5) .nil)))⟩
instance : ToD (Option α) := ⟨fun x => match x with | none => .non | some y => ToD.dat y, fun {K S v x} h => by
  cases x with
  | none => rw [show _ = V.non from h]; exact .non
  | some y => exact ToD.of (x := y) h⟩
end
/-! lists of two unlike things -/
structure H2 (α β : Type) where
  a : α
  b : β
  deriving DecidableEq
section
variable {α β γ : Type} [Py α] [Py β] [Py γ]
instance : Py (H2 α β) := ⟨fun K S v x => ∃ p a b, v = .ref p ∧ S p = some (.lst [a, b]) ∧ Py.rep K S a x.a ∧ Py.rep K S b x.b, fun e ⟨p, a, b, h1, h2, h3, h4⟩ => ⟨p, a, b, h1, e _ _ h2, Py.mono e h3, Py.mono e h4⟩⟩
instance [Dt α] [Dt β] : Dt (H2 α β) := ⟨fun x => .list [Dt.dat x.a, Dt.dat x.b], fun e ⟨p, a, b, h1, h2, h3, h4⟩ => by rw [h1]; exact .lst (SqL.of (e _ _ h2)) (.cons (Dt.dp e h3) (.cons (Dt.dp e h4) .nil)),
  fun x => by simp [PyData.canLay0, PyData.canLayAll0, Dt.lay], max (Dt.dep α) (Dt.dep β) + 1, fun x => by
    have h1 := Dt.dle x.a
    have h2 := Dt.dle x.b
    simp only [PyData.depth, PyData.depthAll]
    omega, fun x y => by
    simp only [PyData.eqv, PyData.eqvAll, Bool.and_eq_true, Dt.eq, and_true]
    cases x; cases y
    simp⟩
end
section
variable {K : Fg} {B S0 S1 S S' D : Hp} {σ : L2.St} {H H' : Hp} {F : Nat → List Addr} {G G' G1 G2 G3 : List Sl} {ta tb tc te : TE} {i j : Nat} {t u : TS} {E : Ends}
theorem ev_h2 {α β : Type} [Py α] [Py β] {x : α} {y : β} (ha : EvX K ta G x G1) (hb : EvX K tb G1 y G2) : EvX K (tLst (tCons ta (tCons tb tNil))) G (H2.mk x y) G2 := fun B S0 S σ H F k Q q =>
  ha B S0 S σ H F k _ fun v S1 H1 e1 k1 r1 => hb B S0 S1 σ H1 F k1 _ fun u S2 H2 e2 k2 r2 => ⟨by show 2 ≤ sizeLine; decide, fun p hp => by
    have e3 := same_new (o := .lst [v, u]) (k2.free hp).1
    exact q (.ref p) _ _ ((e1.trans e2).trans e3) (k2.new hp) ⟨p, v, u, rfl, upd_same, Py.mono (e2.trans e3) r1, Py.mono e3 r2⟩⟩
theorem ev_h2a {α β : Type} [Py α] [Py β] {x : H2 α β} (ha : EvX K ta G x G1) : EvX K (tOp (rIxL K) ta (tC (.int 0))) G x.a G1 := fun B S0 S σ H F k Q q =>
  ha B S0 S σ H F k _ fun v S1 H1 e1 k1 r1 => by
    obtain ⟨p, a, b, rfl, hp, h1, h2⟩ := r1
    exact ⟨p, _, 0, a, rfl, rfl, SqL.of (k1.sub _ _ hp), atI_nat (j := 0) rfl, q a S1 H1 e1 k1 h1⟩
theorem ev_h2b {α β : Type} [Py α] [Py β] {x : H2 α β} (ha : EvX K ta G x G1) : EvX K (tOp (rIxL K) ta (tC (.int 1))) G x.b G1 := fun B S0 S σ H F k Q q =>
  ha B S0 S σ H F k _ fun v S1 H1 e1 k1 r1 => by
    obtain ⟨p, a, b, rfl, hp, h1, h2⟩ := r1
    exact ⟨p, _, 1, b, rfl, rfl, SqL.of (k1.sub _ _ hp), atI_nat (j := 1) rfl, q b S1 H1 e1 k1 h2⟩
/-- xs.pop(n), n drawn -/
theorem ev_popAt {α : Type} [Py α] [Inhabited α] {xs : List α} {n : Int} (hl0 : G[i]? = some (.ow xs)) (hn : EvX K te G n G1) (hl : G1[i]? = some (.ow xs)) (h : 0 ≤ n ∧ n < xs.length) (hx : xs.length ≤ 1000000) :
    EvX K (tBM K "list" rPopAt (tVar i) (tCons te tNil)) G (ix xs n) (G1.set i (.ow (xs.eraseIdx n.toNat))) := fun B S0 S σ H F k Q q => by
  obtain ⟨p, vs, h1, h2, h3, h4⟩ := own_list k hl0
  refine ⟨.ref p, h1, .inl ⟨rfl, _, SqL.of h3⟩, hn B S0 S σ H F k _ fun w S1 H1 e1 k1 r1 => ?_⟩
  obtain ⟨p', vs', h1', h2', h3', h4'⟩ := own_list k1 hl
  rw [h1] at h1'
  cases h1'
  obtain ⟨y, g1, g2⟩ := h4'.get (ix_at h.1 h.2)
  refine ⟨p, vs', n, n.toNat, y, rfl, by rw [show w = .int n from r1], h3', by omega, by omega, ?_, g1, q y S1 _ e1 (own_listUpd k1 h1 h2' (h4'.erase n.toNat)) g2⟩
  unfold seqIndex?
  rw [h4'.len]
  have a1 : ¬ n < 0 := by omega
  simp only [a1, if_false]
  rw [if_pos (by simp; omega)]
/-! any data -/
def Dat.tyn : Dat → String
  | .non => "NoneType"
  | .int _ => "int"
  | .bl _ => "bool"
  | .str _ => "str"
  | .tup _ => "tuple"
  | .lst _ => "list"
theorem DRep.ty {v : V} {d : Dat} (e : Same S H) (h : DRep K S v d) : TyX K H v (.type d.tyn) := by
  cases h with
  | non => exact .base .non
  | int i => exact .base (.int i)
  | bl i => exact .base (.bl i)
  | str i => exact .base (.str i)
  | tup a _ => exact tyT e a
  | lst a _ => exact .base (.lst (e _ _ a))
theorem EvX.dat {α : Type} [Py α] [ToD α] {x : α} (h : EvX K te G x G1) : EvX K te G (ToD.dat x) G1 := fun B S0 S σ H F k Q q => h B S0 S σ H F k Q fun v S' H' e k' r => q v S' H' e k' (ToD.of r)
theorem ev_isiD {c : String} {d : Dat} {b : Bool} (ha : EvX K ta G d G1) (h : kitB d.tyn c = some b) : EvX K (tCB (rIsi K) (tCons ta (tCons (tC (.ty c)) tNil))) G b G1 := fun B S0 S σ H F k Q q =>
  ha B S0 S σ H F k _ fun v S1 H1 e1 k1 r1 => ⟨v, .ty c, .type d.tyn, .type c, b, rfl, .ty c, DRep.ty k1.sub r1, kit_ty h, q _ S1 H1 e1 k1 rfl⟩
def Dat.isN : Dat → Bool
  | .non => true
  | _ => false
theorem ev_isND {d : Dat} (ha : EvX K ta G d G1) : EvX K (tIsN ta) G d.isN G1 := fun B S0 S σ H F k Q q =>
  ha B S0 S σ H F k _ fun v S1 H1 e1 k1 r1 => q _ S1 H1 e1 k1 (by
    cases r1 <;> rfl)
theorem EvX.unI {n : Int} (h : EvX K te G (Dat.int n) G1) : EvX K te G n G1 := fun B S0 S σ H F k Q q => h B S0 S σ H F k Q fun v S' H' e k' r => q v S' H' e k' (by cases r; rfl)
theorem EvX.unBl {n : Bool} (h : EvX K te G (Dat.bl n) G1) : EvX K te G n G1 := fun B S0 S σ H F k Q q => h B S0 S σ H F k Q fun v S' H' e k' r => q v S' H' e k' (by cases r; rfl)
theorem EvX.unS {n : Str} (h : EvX K te G (Dat.str n) G1) : EvX K te G n G1 := fun B S0 S σ H F k Q q => h B S0 S σ H F k Q fun v S' H' e k' r => q v S' H' e k' (by cases r; rfl)
theorem EvX.unT {n : List Dat} (h : EvX K te G (Dat.tup n) G1) : EvX K te G (Tp.mk n) G1 := fun B S0 S σ H F k Q q => h B S0 S σ H F k Q fun v S' H' e k' r => q v S' H' e k' (by
  cases r with
  | tup a b => exact ⟨_, _, rfl, a, b.rep⟩)
theorem EvX.unL {n : List Dat} (h : EvX K te G (Dat.lst n) G1) : EvX K te G n G1 := fun B S0 S σ H F k Q q => h B S0 S σ H F k Q fun v S' H' e k' r => q v S' H' e k' (by
  cases r with
  | lst a b => exact ⟨_, _, rfl, a, b.rep⟩)
theorem wk_zipT {α β : Type} [Py α] [Py β] {S : Hp} {p p' : Addr} {vs vs' : List V} {xs : List α} {ys : List β} (hp : SqT K S p vs) (r : RepL K S vs xs) (hp' : SqT K S p' vs') (r' : RepL K S vs' ys) : Wk K (RZ.ItzT K p p') S (xs.zip ys) := fun S' H' i e1 e2 => by
  have h1 : SqT K H' p vs := seqT e2 (seqT e1 hp)
  have h2 : SqT K H' p' vs' := seqT e2 (seqT e1 hp')
  refine ⟨fun x hx => ?_, fun hl => ⟨vs, vs', h1, h2, ?_⟩⟩
  · have hi := (List.getElem?_eq_some_iff.mp hx).1
    rw [List.length_zip] at hi
    have hx1 : xs[i]? = some x.1 := by
      rw [List.getElem?_eq_getElem (show i < (xs.zip ys).length by rw [List.length_zip]; exact hi), List.getElem_zip] at hx
      cases hx
      exact List.getElem?_eq_getElem _
    have hx2 : ys[i]? = some x.2 := by
      rw [List.getElem?_eq_getElem (show i < (xs.zip ys).length by rw [List.length_zip]; exact hi), List.getElem_zip] at hx
      cases hx
      exact List.getElem?_eq_getElem _
    obtain ⟨v, hv, rv⟩ := r.get hx1
    obtain ⟨v', hv', rv'⟩ := r'.get hx2
    refine ⟨⟨vs, vs', v, v', h1, h2, hv, hv'⟩, fun w H'' y => ?_⟩
    obtain ⟨T, u, u', rfl, hT, rfl, y1, y2⟩ := y
    have e := y1 vs h1
    rw [hv] at e
    cases e
    have e := y2 vs' h2
    rw [hv'] at e
    cases e
    have g := Grow.new (o := .tup [v, v']) e2 hT
    exact ⟨_, g, T, v, v', rfl, SqT.of upd_same, Py.mono (e1.trans g.s) rv, Py.mono (e1.trans g.s) rv'⟩
  · rw [List.length_zip] at hl
    rw [r.len, r'.len]
    omega
theorem it_zipAT {α β : Type} [Py α] [Py β] {xs : Tp α} {ys : Tp β} (h : EvX K ta G xs G1) (h' : EvX K tb G1 ys G2) : ItG K (RZ.iZipA K (tCons ta (tCons tb tNil))) G (xs.l.zip ys.l) G2 := fun B S0 S σ H F k R q =>
  h B S0 S σ H F k _ fun v S1 H1 e1 k1 r1 => h' B S0 S1 σ H1 F k1 _ fun w S2 H2 e2 k2 r2 => by
    obtain ⟨p, vs, rfl, hp, hr⟩ := Py.mono e2 r1
    obtain ⟨p', vs', rfl, hp', hr'⟩ := r2
    exact ⟨p, p', vs, vs', rfl, .inr ⟨seqT k2.sub hp, seqT k2.sub hp', q _ S2 H2 (e1.trans e2) k2 (wk_zipT hp hr hp' hr')⟩⟩
theorem it_zipAL {α β : Type} [Py α] [Py β] {xs : List α} {ys : List β} (h : EvX K ta G xs G1) (h' : EvX K tb G1 ys G2) : ItG K (RZ.iZipA K (tCons ta (tCons tb tNil))) G (xs.zip ys) G2 := fun B S0 S σ H F k R q =>
  h B S0 S σ H F k _ fun v S1 H1 e1 k1 r1 => h' B S0 S1 σ H1 F k1 _ fun w S2 H2 e2 k2 r2 => by
    obtain ⟨p, vs, rfl, hp, hr⟩ := Py.mono e2 r1
    obtain ⟨p', vs', rfl, hp', hr'⟩ := r2
    exact ⟨p, p', vs, vs', rfl, .inl ⟨SqL.of (k2.sub _ _ hp), SqL.of (k2.sub _ _ hp'), q _ S2 H2 (e1.trans e2) k2 (wk_zip hp hr hp' hr')⟩⟩
theorem inV_bls (x : Bool) : ∀ xs : List Bool, inV (.bl x) (xs.map V.bl) = decide (x ∈ xs)
  | [] => rfl
  | y :: ys => by
    have ih := inV_bls x ys
    unfold inV at ih ⊢
    rw [List.map_cons, List.any_cons, ih]
    by_cases e : y = x
    · subst e
      cases y <;> simp [eqV]
    · have : ¬ x = y := fun z => e z.symm
      cases x <;> cases y <;> simp_all [eqV]
theorem flat_bls : ∀ xs : List Bool, (xs.map V.bl).all flatV = true
  | [] => rfl
  | _ :: xs => by rw [List.map_cons, List.all_cons, flat_bls xs]; rfl
theorem ev_inB {x : Bool} {xs : List Bool} (ha : EvX K ta G x G) (hb : EvC K tb G xs G) : EvX K (tOp (rIn K false) ta tb) G (decide (x ∈ xs)) G := fun B S0 S σ H F k Q q =>
  ha B S0 S σ H F k _ fun v S1 H1 e1 k1 r1 => hb B S0 S1 σ H1 F k1 _ fun w S2 H2 e2 k2 r2 => by
    obtain ⟨p, vs, rfl, hp, hr⟩ := r2.at k2
    rw [hr.bls] at hp
    rw [show v = .bl x from r1]
    exact ⟨p, _, rfl, .inl (SqL.of hp), rfl, flat_bls _, q _ S2 H2 (e1.trans e2) k2 (by rw [inV_bls]; rfl)⟩
theorem ev_ninB {x : Bool} {xs : List Bool} (ha : EvX K ta G x G) (hb : EvC K tb G xs G) : EvX K (tOp (rIn K true) ta tb) G (!decide (x ∈ xs)) G := fun B S0 S σ H F k Q q =>
  ha B S0 S σ H F k _ fun v S1 H1 e1 k1 r1 => hb B S0 S1 σ H1 F k1 _ fun w S2 H2 e2 k2 r2 => by
    obtain ⟨p, vs, rfl, hp, hr⟩ := r2.at k2
    rw [hr.bls] at hp
    rw [show v = .bl x from r1]
    exact ⟨p, _, rfl, .inl (SqL.of hp), rfl, flat_bls _, q _ S2 H2 (e1.trans e2) k2 (by rw [inV_bls]; rfl)⟩
end
/-- what `_law_same` keeps: True of two of one shape and content -/
abbrev spSame (K : Fg) (k : Nat) : Sp := spF K (fun (_ : Dat × Dat × Unit) => true) (fun a => a.1 = a.2.1 ∧ DLe k a.1)
end GL

/-! Calls that read an owned dict; comprehensions whose state is told by what was done. -/
namespace GL
open PySem PySem.Spec PyProof.Rows L2
/-- a heap without one object -/
def del (S : Hp) (p : Addr) : Hp := fun q => if q = p then none else S q
theorem del_self {S : Hp} {p : Addr} : del S p p = none := if_pos rfl
theorem del_ne {S : Hp} {p q : Addr} (h : q ≠ p) : del S p q = S q := if_neg h
/-- kinds that hold no dict -/
class NoD (α : Type) [Py α] : Prop where
  go : ∀ {K : Fg} {S : Hp} {p : Addr} {kvs : List (Key × V)} {v : V} {x : α}, S p = some (.dK kvs) → Py.rep K S v x → Py.rep K (del S p) v x
theorem noT {K : Fg} {S : Hp} {p a : Addr} {kvs : List (Key × V)} {vs : List V} (h : S p = some (.dK kvs)) (r : SqT K S a vs) : SqT K (del S p) a vs := by
  rcases r with (r | ⟨o, r⟩) | r
  · exact .inl (.inl (by rw [del_ne (fun e => by rw [e, h] at r; cases r)]; exact r))
  · exact .inl (.inr ⟨o, by rw [del_ne (fun e => by rw [e, h] at r; cases r)]; exact r⟩)
  · exact .inr r
section
variable {α β γ : Type} [Py α] [Py β] [Py γ]
theorem noL [NoD α] {K : Fg} {S : Hp} {p : Addr} {kvs : List (Key × V)} (h : S p = some (.dK kvs)) : ∀ {vs : List V} {xs : List α}, RepL K S vs xs → RepL K (del S p) vs xs
  | [], [], _ => True.intro
  | _ :: _, _ :: _, r => ⟨NoD.go h r.1, noL h r.2⟩
  | [], _ :: _, r => r.elim
  | _ :: _, [], r => r.elim
instance : NoD Int := ⟨fun _ h => h⟩
instance : NoD Bool := ⟨fun _ h => h⟩
instance : NoD Str := ⟨fun _ h => h⟩
instance : NoD Unit := ⟨fun _ h => h⟩
instance [NoD α] : NoD (List α) := ⟨fun h ⟨a, vs, h1, h2, h3⟩ => ⟨a, vs, h1, by rw [del_ne (fun e => by rw [e, h] at h2; cases h2)]; exact h2, noL h h3⟩⟩
instance [NoD α] : NoD (Tp α) := ⟨fun h ⟨a, vs, h1, h2, h3⟩ => ⟨a, vs, h1, noT h h2, noL h h3⟩⟩
instance [NoD α] [NoD β] : NoD (α × β) := ⟨fun h ⟨a, x, y, h1, h2, h3, h4⟩ => ⟨a, x, y, h1, noT h h2, NoD.go h h3, NoD.go h h4⟩⟩
instance [NoD α] [NoD β] [NoD γ] : NoD (T3 α β γ) := ⟨fun h ⟨a, x, y, z, h1, h2, h3, h4, h5⟩ => ⟨a, x, y, z, h1, noT h h2, NoD.go h h3, NoD.go h h4, NoD.go h h5⟩⟩
instance [NoD α] : NoD (Option α) := ⟨fun {K S p kvs v x} h r => by
  cases x with
  | none => exact r
  | some y => exact NoD.go (x := y) h r⟩
end
section
variable {K : Fg} {B S0 S1 S S' D : Hp} {σ : L2.St} {H H' : Hp} {F : Nat → List Addr} {G G' G1 G2 G3 : List Sl} {ta tb tc te : TE} {i j : Nat} {t u : TS} {E : Ends}
/-- plain arguments: names alone -/
def EvV {α : Type} [PyA α] (K : Fg) (ta : TA) (G : List Sl) (x : α) : Prop :=
  ∀ B S0 S σ H F, Kn K B S0 S σ H F G → ∀ Q : List V → Hp → Prop, (∀ vs, PyA.rep K S vs x → Q vs H) → ta σ H Q
theorem vv_nil : EvV K tNil G () := fun B S0 S σ H F k Q q => q [] rfl
theorem vv_cons {α δ : Type} [Py α] [PyA δ] {x : α} {tr : TA} {xs : δ} (h : G[i]? = some (.im x)) (hr : EvV K tr G xs) : EvV K (tCons (tVar i) tr) G (x, xs) := fun B S0 S σ H F k Q q => by
  obtain ⟨v, h1, h2⟩ := k.im h
  exact ⟨v, h1, hr B S0 S σ H F k _ fun vs r => q (v :: vs) ⟨v, vs, rfl, h2, r⟩⟩
theorem vv_int {δ : Type} [PyA δ] {x : Int} {tr : TA} {xs : δ} (hr : EvV K tr G xs) : EvV K (tCons (tC (.int x)) tr) G (x, xs) := fun B S0 S σ H F k Q q => hr B S0 S σ H F k _ fun vs r => q (.int x :: vs) ⟨.int x, vs, rfl, rfl, r⟩
/-- an owned dict is settled, told where -/
theorem Kn.relDat {δ : Type} [Py δ] {d : Dct δ} {p : Addr} {kvs : List (Key × V)} (k : Kn K B S0 S σ H F G) (h : G[i]? = some (.ow d)) (hv : σ[i]? = some (some (.ref p))) (hp : F i = [p]) (h1 : H p = some (.dK kvs)) (h2 : RepD K S kvs d.l) : Kn K B S0 (upd S p (.dK kvs)) σ H (upF F i []) (G.set i (.im d)) := by
  obtain ⟨hs, hb, _⟩ := k.off i p (by rw [hp]; exact List.mem_singleton.mpr rfl)
  have k1 : Kn K B S0 S σ H (upF F i []) (G.set i .no) := by
    refine ⟨k.s0, k.sub, k.keep, k.clean, fun j q hq => ?_, fun a b q ha hb' => ?_, by rw [List.length_set]; exact k.len, fun j s e => ?_⟩
    · by_cases e : j = i
      · rw [e, upF_self] at hq
        cases hq
      · rw [upF_ne e] at hq
        exact k.off j q hq
    · by_cases ea : a = i
      · rw [ea, upF_self] at ha
        cases ha
      · by_cases eb : b = i
        · rw [eb, upF_self] at hb'
          cases hb'
        · rw [upF_ne ea] at ha
          rw [upF_ne eb] at hb'
          exact k.dj a b q ha hb'
    · rcases set_get e with ⟨rfl, rfl⟩ | ⟨ne, e⟩
      · exact True.intro
      · rw [upF_ne ne]
        exact k.sl j s e
  have hf : ∀ j, p ∉ upF F i [] j := fun j hj => by
    by_cases e : j = i
    · rw [e, upF_self] at hj
      cases hj
    · rw [upF_ne e] at hj
      exact e (k.dj j i p hj (by rw [hp]; exact List.mem_singleton.mpr rfl))
  have k2 := k1.settle h1 hs hb hf
  have hl : i < G.length := (List.getElem?_eq_some_iff.mp h).1
  have k3 := k2.set (i := i) (v := .ref p) (x := d) ⟨p, kvs, rfl, upd_same, h2.mono (same_new hs)⟩ (by rw [List.getElem?_set_self hl]; rfl)
  have e1 : σ.set i (some (.ref p)) = σ := by
    apply List.ext_getElem?
    intro j
    by_cases e : i = j
    · subst e
      rw [List.getElem?_set_self (by rw [← k.len]; exact hl)]
      exact hv.symm
    · rw [List.getElem?_set_ne e]
  rw [e1, List.set_set] at k3
  exact k3
/-- what a call leaves that read an owned dict -/
theorem Grow.lent {p : Addr} {o : HO} {S2 H2 : Hp} (hs : S p = none) (g : Grow (upd S p o) H S2 H2) : Grow S H (del S2 p) H2 := by
  refine ⟨fun q x e => ?_, fun q x e => ?_, g.h, fun q x e => ?_⟩
  · have z : q ≠ p := fun z => by rw [z, hs] at e; cases e
    rw [del_ne z]
    exact g.s q x (by rw [upd_ne z]; exact e)
  · by_cases z : q = p
    · rw [z, del_self] at e
      cases e
    · rw [del_ne z] at e
      exact g.sub q x e
  · by_cases z : q = p
    · rw [z, del_self, hs]
    · rw [del_ne z, g.cl q x e, upd_ne z]
/-- a call that reads an owned dict -/
theorem ev_callB {δ α β : Type} [Py δ] [PyA α] [Py β] [NoD β] {f : α → β} {pre : α → Prop} {a : α} {t : TA} {E : XK} {d : Dct δ} (hi : G[i]? = some (.ow d)) (ha : EvV K t (G.set i (.im d)) a) (hp : pre a) : EvX K (tCall (spF K f pre) [] E t) G (f a) G := fun B S0 S σ H F k Q q => by
  obtain ⟨v, hv, p, kvs, rfl, hF, h1, h2⟩ := k.ow hi
  obtain ⟨hs, hb, _⟩ := k.off i p (by rw [hF]; exact List.mem_singleton.mpr rfl)
  have k' := k.relDat hi hv hF h1 h2
  refine ha B S0 _ σ H _ k' _ fun vs r => ?_
  show spF K f pre (vs ++ []) H _ E
  rw [List.append_nil]
  refine ⟨upd S p (.dK kvs), a, k'.sub, r, hp, fun w S2 H2 g r2 => ?_⟩
  have gl := g.lent hs
  exact q w (del S2 p) H2 gl.s (k.grow gl) (NoD.go (g.s _ _ upd_same) r2)
/-- a comprehension that turns owned things, the state told by what was done -/
theorem el_lcP {α β τ : Type} [Py α] [Py β] {wi : TI} {g : TG} {te : TE} {vs : List Nat} {xs : List α} (γ : τ → List Sl) (s0 : τ) (step : τ → α → τ) (e : τ → α → β) (hi : ItG K wi G xs (γ s0)) (hl : xs.length ≤ 1000000)
    (hs : ∀ pre x post, pre ++ x :: post = xs → ∀ s, s = pre.foldl step s0 → ∃ G2 ts, TgG K g x (wipeG (γ s) vs) G2 ts ∧ (∀ t ∈ ts, t ∈ vs) ∧ ∃ G4, EvX K te G2 (e s x) G4 ∧ Bk vs 0 (γ (step s x)) G4 (γ s)) :
    EvL K (tLc wi g tYes te vs) G (mapX e step xs s0).1 (γ (mapX e step xs s0).2) := by
  have h := el_lcX (K := K) (wi := wi) (g := g) (tt := tYes) (te := te) (vs := vs) (G := G) γ s0 step (fun _ _ => true) e hi hl fun pre x post ex s hs' => by
    obtain ⟨G2, ts, tg, hts, G4, he, bk⟩ := hs pre x post ex s hs'
    refine ⟨G2, ts, tg, hts, G2, G4, et_yes, fun _ => he, (fun h => nomatch h), fun j sl hj => ?_, bk.len⟩
    have := bk.get j sl hj
    rw [Nat.zero_add] at this
    exact this
  simp only [if_true] at h
  rw [mapX_snd]
  exact h
end
theorem pe_bmK {X : Cx} {K : Fg} {o e : Expr} {es : List Expr} {to : TE} {t : TA} {name : Str} {apos cpos : Pos} {T id : String} {r : V → List V → Hp → VK → Prop} (hK : X.K = K) (pa : PlainAttrs T) (slot : Slot T name id) (hty : typeOf (.builtin id) = pure (.type "method_descriptor")) (hm : MtR X id r) (ho : PE X o to) (ha : PA X (e :: es) t)
    (hbase : attributeBase o name X.env (eval o X.env) = eval o X.env := by rfl)
    (hfew : ((backTo cpos (starEach (e :: es) X.env)).all (fun x => !x.1) && (backToKw cpos (keywordEach [] X.env)).all (fun x => x.1.isSome) && decide ((e :: es).length + ([] : List Keyword).length + (if ([] : List Keyword).isEmpty then 0 else 1) < 30)) = true := by rfl)
    (hline : (apos.endLine == cpos.line) = true := by rfl) (hs : starEach (e :: es) X.env = (false, eval e X.env) :: starEach es X.env := by rfl) (hplain : (backTo cpos (starEach es X.env)).any (·.1) = false := by rfl) :
    PE X (.Call (.Attribute o name apos) (e :: es) [] cpos) (tBM K T r to t) := by
  subst hK
  exact pe_bm pa slot hty hm ho ha hbase hfew hline hs hplain
end GL

/-! Tuples cut and joined, tuples of five, rows of programs, calls that read an owned list. -/
namespace L2
open PySem PySem.Spec PyProof.Rows
section
variable {X : Cx}
/-- sorted(set(t)), t a tuple of whole numbers -/
def tSortSetT (K : PySem.W.Frag) (ta : TE) : TE := fun σ H Q => ta σ H fun x H1 => ∃ (l : Addr) (ns : List Int), x = V.ref l ∧ SqT K H1 l (ns.map V.int) ∧ ns.length < 64 ∧
  ∀ (ms : List Int) (p : Addr), ms.Pairwise (· < ·) → (∀ k : Int, k ∈ ms ↔ k ∈ ns) → H1 p = none → Q (.ref p) (upd H1 p (.lst (ms.map V.int)))
theorem pe_sortSetT {a : Expr} {ta : TE} {p p2 q pos : Pos} (hc : X.calm = true) (hg : Gl X "sorted") (hm : X.mg "sorted" = none) (hg2 : Gl X "set") (hm2 : X.mg "set" = none) (ha : PE X a ta)
    (na : starEach [a] X.env = (false, eval a X.env) :: starEach [] X.env := by rfl) : PE X (.Call (.Name "sorted" p) [.Call (.Name "set" p2) [a] [] q] [] pos) (tSortSetT X.K ta) := by
  refine ⟨fun pins s σ H Q I h => ?_⟩
  refine Call_ (ld_blt I hg hm PyProof.Rows.boot_sorted ?_)
  refine PyProof.Rows.callWith_builtin1 (PyProof.Rows.args_cons ?_ rfl) rfl rfl
  refine Call_ (ld_blt I hg2 hm2 PyProof.Rows.boot_set ?_)
  refine PyProof.Rows.callWith_type1 (PyProof.Rows.args_cons (thn (ha.run pins s σ H _ I h) fun v s1 ⟨x, H1, I1, r1, q1⟩ => PyProof.Rows.args_nil ?_) na) na rfl
  obtain ⟨l, ns, rfl, hq, h1, q1⟩ := q1
  cases r1
  obtain ⟨its, r, pl, hz⟩ := I1.tuple hq
  refine call_set_tupI ns (I1.ok.hd hc) (show s1.heap.IsTuple l its.toArray from pl) (by simpa using r.ints) (by unfold scanBound; omega) fun h' tk c R hcn hk => ?_
  refine PyProof.Rows.args_nil ?_
  have I2 : Inv X pins σ H1 { s1 with heap := h', toks := tk } := I1.kept hk
  refine sorted_set R (I2.ok.hd hc) (by omega) fun s' p out c ms k g o hp hg hi hs hm hl => ?_
  have hlen : (ms.map V.int).length ≤ sizeLine := by rw [List.length_map, hl, sizeLine_eq]; omega
  have hn : H1 p = none := I2.hok.fresh hp
  have J : Inv X pins σ (upd H1 p (.lst (ms.map V.int))) { { s1 with heap := h', toks := tk } with heap := s'.heap, gens := s'.gens, drawn := s'.drawn, toks := s'.toks } :=
    I2.call (ch := []) (Un.laid k hp hn) (I2.hok.laid k hp ⟨hlen, out.toList, c, vals_of_ints hi, hg⟩) (by rw [g]; exact I2.bare) (fun _ z => nomatch z)
  have e : s' = { { s1 with heap := h', toks := tk } with heap := s'.heap, gens := s'.gens, drawn := s'.drawn, toks := s'.toks } := by
    cases s'
    cases s1
    cases o
    rfl
  rw [e]
  exact ⟨.ref p, _, J, rfl, q1 ms p hs (fun k => by rw [hm k]; exact decide_eq_true_iff) hn⟩
end
end L2
namespace GL
open PySem PySem.Spec PyProof.Rows L2
/-! tuples of five -/
structure T5 (α β γ δ ε : Type) where
  a : α
  b : β
  c : γ
  d : δ
  e : ε
  deriving DecidableEq
section
variable {α β γ δ ε : Type} [Py α] [Py β] [Py γ] [Py δ] [Py ε]
instance : Py (T5 α β γ δ ε) := ⟨fun K S v x => ∃ p a b c d e, v = .ref p ∧ SqT K S p [a, b, c, d, e] ∧ Py.rep K S a x.a ∧ Py.rep K S b x.b ∧ Py.rep K S c x.c ∧ Py.rep K S d x.d ∧ Py.rep K S e x.e,
  fun z ⟨p, a, b, c, d, e, h1, h2, h3, h4, h5, h6, h7⟩ => ⟨p, a, b, c, d, e, h1, seqT z h2, Py.mono z h3, Py.mono z h4, Py.mono z h5, Py.mono z h6, Py.mono z h7⟩⟩
instance [ToD α] [ToD β] [ToD γ] [ToD δ] [ToD ε] : ToD (T5 α β γ δ ε) := ⟨fun x => .tup [ToD.dat x.a, ToD.dat x.b, ToD.dat x.c, ToD.dat x.d, ToD.dat x.e], fun ⟨p, a, b, c, d, e, h1, h2, h3, h4, h5, h6, h7⟩ => by
  rw [h1]; exact .tup h2 (.cons (ToD.of h3) (.cons (ToD.of h4) (.cons (ToD.of h5) (.cons (ToD.of h6) (.cons (ToD.of h7) .nil)))))⟩
/-- kinds that hold no list -/
class NoL (α : Type) [Py α] : Prop where
  go : ∀ {K : Fg} {S : Hp} {p : Addr} {us : List V} {v : V} {x : α}, S p = some (.lst us) → Py.rep K S v x → Py.rep K (del S p) v x
end
theorem nlT {K : Fg} {S : Hp} {p a : Addr} {us : List V} {vs : List V} (h : S p = some (.lst us)) (r : SqT K S a vs) : SqT K (del S p) a vs := by
  rcases r with (r | ⟨o, r⟩) | r
  · exact .inl (.inl (by rw [del_ne (fun e => by rw [e, h] at r; cases r)]; exact r))
  · exact .inl (.inr ⟨o, by rw [del_ne (fun e => by rw [e, h] at r; cases r)]; exact r⟩)
  · exact .inr r
section
variable {α β γ δ ε : Type} [Py α] [Py β] [Py γ] [Py δ] [Py ε]
theorem nlAll [NoL α] {K : Fg} {S : Hp} {p : Addr} {us : List V} (h : S p = some (.lst us)) : ∀ {vs : List V} {xs : List α}, RepL K S vs xs → RepL K (del S p) vs xs
  | [], [], _ => True.intro
  | _ :: _, _ :: _, r => ⟨NoL.go h r.1, nlAll h r.2⟩
  | [], _ :: _, r => r.elim
  | _ :: _, [], r => r.elim
instance : NoL Int := ⟨fun _ h => h⟩
instance : NoL Bool := ⟨fun _ h => h⟩
instance : NoL Str := ⟨fun _ h => h⟩
instance : NoL Unit := ⟨fun _ h => h⟩
instance [NoL α] : NoL (Tp α) := ⟨fun h ⟨a, vs, h1, h2, h3⟩ => ⟨a, vs, h1, nlT h h2, nlAll h h3⟩⟩
instance [NoL α] [NoL β] : NoL (α × β) := ⟨fun h ⟨a, x, y, h1, h2, h3, h4⟩ => ⟨a, x, y, h1, nlT h h2, NoL.go h h3, NoL.go h h4⟩⟩
instance [NoL α] [NoL β] [NoL γ] : NoL (T3 α β γ) := ⟨fun h ⟨a, x, y, z, h1, h2, h3, h4, h5⟩ => ⟨a, x, y, z, h1, nlT h h2, NoL.go h h3, NoL.go h h4, NoL.go h h5⟩⟩
instance [NoL α] [NoL β] [NoL γ] [NoL δ] [NoL ε] : NoL (T5 α β γ δ ε) := ⟨fun h ⟨p, a, b, c, d, e, h1, h2, h3, h4, h5, h6, h7⟩ => ⟨p, a, b, c, d, e, h1, nlT h h2, NoL.go h h3, NoL.go h h4, NoL.go h h5, NoL.go h h6, NoL.go h h7⟩⟩
instance [NoL α] : NoL (Option α) := ⟨fun {K S p us v x} h r => by
  cases x with
  | none => exact r
  | some y => exact NoL.go (x := y) h r⟩
end
/-! rows of programs -/
inductive WRow
  | set (p v : Int)
  | add (p q : Int)
  | jump (p r : Int)
  | say (p : Int)
  | take (p : Int)
  | fin
  deriving DecidableEq
instance : Inhabited WRow := ⟨.fin⟩
def sW (s : String) : Str := Str.ofString s
namespace WRow
def word : WRow → Str
  | .set _ _ => Str.ofString "set"
  | .add _ _ => Str.ofString "add"
  | .jump _ _ => Str.ofString "jump"
  | .say _ => Str.ofString "say"
  | .take _ => Str.ofString "take"
  | .fin => Str.ofString "end"
def nums : WRow → List Int
  | .set p v => [p, v]
  | .add p q => [p, q]
  | .jump p r => [p, r]
  | .say p => [p]
  | .take p => [p]
  | .fin => []
def vals (r : WRow) : List V := .str r.word :: r.nums.map V.int
def a1 (r : WRow) : Int := r.nums.getD 0 0
def a2 (r : WRow) : Int := r.nums.getD 1 0
def dat (r : WRow) : PyData := .tuple (.str r.word :: r.nums.map PyData.int)
end WRow
instance : Py WRow := ⟨fun K S v r => ∃ p, v = .ref p ∧ SqT K S p r.vals, fun e ⟨p, h1, h2⟩ => ⟨p, h1, seqT e h2⟩⟩
instance : NoL WRow := ⟨fun h ⟨p, h1, h2⟩ => ⟨p, h1, nlT h h2⟩⟩
theorem nn_row : ∀ (K : Fg) (S : Hp) (v : V) (y : WRow), Py.rep K S v y → v ≠ .non := fun K S v y ⟨p, r, _⟩ e => by
  rw [r] at e
  cases e
section
variable {K : Fg} {B S0 S1 S S' D : Hp} {σ : L2.St} {H H' : Hp} {F : Nat → List Addr} {G G' G1 G2 G3 G4 G5 : List Sl} {ta tb tc td te : TE} {i j l : Nat} {t u : TS} {E : Ends}
section
variable {α β γ δ ε : Type} [Py α] [Py β] [Py γ] [Py δ] [Py ε]
theorem ev_t5 {x : α} {y : β} {z : γ} {w : δ} {v : ε} (ha : EvX K ta G x G1) (hb : EvX K tb G1 y G2) (hc : EvX K tc G2 z G3) (hd : EvX K td G3 w G4) (he : EvX K te G4 v G5) : EvX K (tTup (tCons ta (tCons tb (tCons tc (tCons td (tCons te tNil)))))) G (T5.mk x y z w v) G5 := fun B S0 S σ H F k Q q =>
  ha B S0 S σ H F k _ fun v1 S1 H1 e1 k1 r1 => hb B S0 S1 σ H1 F k1 _ fun v2 S2 H2 e2 k2 r2 => hc B S0 S2 σ H2 F k2 _ fun v3 S3 H3 e3 k3 r3 => hd B S0 S3 σ H3 F k3 _ fun v4 S4 H4 e4 k4 r4 => he B S0 S4 σ H4 F k4 _ fun v5 S5 H5 e5 k5 r5 => ⟨by show 5 ≤ sizeLine; decide, fun p hp => by
    have e6 := same_new (o := .tup [v1, v2, v3, v4, v5]) (k5.free hp).1
    exact q (.ref p) _ _ (((((e1.trans e2).trans e3).trans e4).trans e5).trans e6) (k5.new hp) ⟨p, v1, v2, v3, v4, v5, rfl, SqT.of upd_same, Py.mono ((((e2.trans e3).trans e4).trans e5).trans e6) r1, Py.mono (((e3.trans e4).trans e5).trans e6) r2, Py.mono ((e4.trans e5).trans e6) r3, Py.mono (e5.trans e6) r4, Py.mono e6 r5⟩⟩
variable {w : T5 α β γ δ ε}
theorem ev_5a (ha : EvX K ta G w G1) : EvX K (tOp (rIxT K) ta (tC (.int 0))) G w.a G1 := fun B S0 S σ H F k Q q =>
  ha B S0 S σ H F k _ fun v S1 H1 e1 k1 r1 => by
    obtain ⟨p, a, b, c, d, e, rfl, hp, h1, h2, h3, h4, h5⟩ := r1
    exact ⟨p, _, 0, a, rfl, rfl, seqT k1.sub hp, atI_nat (j := 0) rfl, q a S1 H1 e1 k1 h1⟩
theorem ev_5b (ha : EvX K ta G w G1) : EvX K (tOp (rIxT K) ta (tC (.int 1))) G w.b G1 := fun B S0 S σ H F k Q q =>
  ha B S0 S σ H F k _ fun v S1 H1 e1 k1 r1 => by
    obtain ⟨p, a, b, c, d, e, rfl, hp, h1, h2, h3, h4, h5⟩ := r1
    exact ⟨p, _, 1, b, rfl, rfl, seqT k1.sub hp, atI_nat (j := 1) rfl, q b S1 H1 e1 k1 h2⟩
theorem ev_5c (ha : EvX K ta G w G1) : EvX K (tOp (rIxT K) ta (tC (.int 2))) G w.c G1 := fun B S0 S σ H F k Q q =>
  ha B S0 S σ H F k _ fun v S1 H1 e1 k1 r1 => by
    obtain ⟨p, a, b, c, d, e, rfl, hp, h1, h2, h3, h4, h5⟩ := r1
    exact ⟨p, _, 2, c, rfl, rfl, seqT k1.sub hp, atI_nat (j := 2) rfl, q c S1 H1 e1 k1 h3⟩
theorem ev_5d (ha : EvX K ta G w G1) : EvX K (tOp (rIxT K) ta (tC (.int 3))) G w.d G1 := fun B S0 S σ H F k Q q =>
  ha B S0 S σ H F k _ fun v S1 H1 e1 k1 r1 => by
    obtain ⟨p, a, b, c, d, e, rfl, hp, h1, h2, h3, h4, h5⟩ := r1
    exact ⟨p, _, 3, d, rfl, rfl, seqT k1.sub hp, atI_nat (j := 3) rfl, q d S1 H1 e1 k1 h4⟩
theorem ev_5e (ha : EvX K ta G w G1) : EvX K (tOp (rIxT K) ta (tC (.int 4))) G w.e G1 := fun B S0 S σ H F k Q q =>
  ha B S0 S σ H F k _ fun v S1 H1 e1 k1 r1 => by
    obtain ⟨p, a, b, c, d, e, rfl, hp, h1, h2, h3, h4, h5⟩ := r1
    exact ⟨p, _, 4, e, rfl, rfl, seqT k1.sub hp, atI_nat (j := 4) rfl, q e S1 H1 e1 k1 h5⟩
theorem tg_t5 {g1 g2 g3 g4 g5 : TG} {t1 t2 t3 t4 t5 : List Nat} (h1 : TgG K g1 w.a G G1 t1) (h2 : TgG K g2 w.b G1 G2 t2) (h3 : TgG K g3 w.c G2 G3 t3) (h4 : TgG K g4 w.d G3 G4 t4) (h5 : TgG K g5 w.e G4 G5 t5) :
    TgG K (gTup K 5 (gCons g1 (gCons g2 (gCons g3 (gCons g4 (gCons g5 gNil)))))) w G G5 (t1 ++ (t2 ++ (t3 ++ (t4 ++ t5)))) :=
  ⟨fun j hj => (((((h5.1 j (notL (notL (notL (notL hj).2).2).2).2).trans (h4.1 j (notL (notL (notL (notL hj).2).2).2).1)).trans (h3.1 j (notL (notL (notL hj).2).2).1)).trans (h2.1 j (notL (notL hj).2).1)).trans (h1.1 j (notL hj).1)), fun B S0 S σ H F v k r Q q => by
  obtain ⟨p, a, b, c, d, e, rfl, hp, ra, rb, rc, rd, re⟩ := r
  refine ⟨p, [a, b, c, d, e], rfl, seqT k.sub hp, rfl, a, [b, c, d, e], rfl, h1.2 B S0 S σ H F a k ra _ fun σ1 k1 o1 w1 => ⟨b, [c, d, e], rfl, h2.2 B S0 S σ1 H F b k1 rb _ fun σ2 k2 o2 w2 => ⟨c, [d, e], rfl, h3.2 B S0 S σ2 H F c k2 rc _ fun σ3 k3 o3 w3 =>
    ⟨d, [e], rfl, h4.2 B S0 S σ3 H F d k3 rd _ fun σ4 k4 o4 w4 => ⟨e, [], rfl, h5.2 B S0 S σ4 H F e k4 re _ fun σ5 k5 o5 w5 => ⟨rfl, q σ5 k5 (fun j hj => ?_) fun vs hv => ?_⟩⟩⟩⟩⟩⟩
  · exact ((((o5 j (notL (notL (notL (notL hj).2).2).2).2).trans (o4 j (notL (notL (notL (notL hj).2).2).2).1)).trans (o3 j (notL (notL (notL hj).2).2).1)).trans (o2 j (notL (notL hj).2).1)).trans (o1 j (notL hj).1)
  · have m1 : ∀ t ∈ t1, t ∈ vs := fun t ht => hv t (List.mem_append_left _ ht)
    have m2 : ∀ t ∈ t2, t ∈ vs := fun t ht => hv t (List.mem_append_right _ (List.mem_append_left _ ht))
    have m3 : ∀ t ∈ t3, t ∈ vs := fun t ht => hv t (List.mem_append_right _ (List.mem_append_right _ (List.mem_append_left _ ht)))
    have m4 : ∀ t ∈ t4, t ∈ vs := fun t ht => hv t (List.mem_append_right _ (List.mem_append_right _ (List.mem_append_right _ (List.mem_append_left _ ht))))
    have m5 : ∀ t ∈ t5, t ∈ vs := fun t ht => hv t (List.mem_append_right _ (List.mem_append_right _ (List.mem_append_right _ (List.mem_append_right _ ht))))
    rw [w5 vs m5, w4 vs m4, w3 vs m3, w2 vs m2, w1 vs m1]⟩
theorem qg_t5 (i j l m n : Nat) (h : EvX K te G w G1) (hi : G1[i]?.isSome = true) (hj : (G1.set i (.im w.a))[j]?.isSome = true) (hl : ((G1.set i (.im w.a)).set j (.im w.b))[l]?.isSome = true) (hm : (((G1.set i (.im w.a)).set j (.im w.b)).set l (.im w.c))[m]?.isSome = true) (hn : ((((G1.set i (.im w.a)).set j (.im w.b)).set l (.im w.c)).set m (.im w.d))[n]?.isSome = true)
    (k : ∀ a b c d e, a = w.a → b = w.b → c = w.c → d = w.d → e = w.e → At K B S0 (u E) (((((G1.set i (.im a)).set j (.im b)).set l (.im c)).set m (.im d)).set n (.im e))) :
    At K B S0 (tSeq (tAsg te (gTup K 5 (gCons (gName i) (gCons (gName j) (gCons (gName l) (gCons (gName m) (gCons (gName n) gNil))))))) u E) G := q_asg h (tg_t5 (tg_name hi) (tg_name hj) (tg_name hl) (tg_name hm) (tg_name hn)) (k _ _ _ _ _ rfl rfl rfl rfl rfl)
/-! tuples cut and joined -/
theorem ev_slT {xs : Tp α} {tl th : TO} {lo hi : Option Int} (h : EvX K ta G xs G) (hl : EvO K tl G lo) (hh : EvO K th G hi) : EvX K (tSl (rSlA K) ta tl th) G (Tp.mk (cutL xs.l lo hi)) G := fun B S0 S σ H F k Q q =>
  h B S0 S σ H F k _ fun v S1 H1 e1 k1 r1 => hl B S0 S1 σ H1 F k1 _ fun S2 H2 e2 k2 => hh B S0 S2 σ H2 F k2 _ fun S3 H3 e3 k3 => by
    obtain ⟨p, vs, rfl, hp, hr⟩ := Py.mono (e2.trans e3) r1
    have e4 : Same S S3 := (e1.trans e2).trans e3
    refine ⟨p, vs, rfl, seqT k3.sub hp, fun hw => ?_, fun _ l hl => ?_⟩
    · have ec : cutL xs.l lo hi = xs.l := by
        unfold cutL
        rw [hr.len] at hw
        rw [hw.1, hw.2, List.drop_zero, Nat.sub_zero, List.take_length]
      exact q _ S3 H3 e4 k3 ⟨p, vs, rfl, hp, by show RepL K S3 vs (cutL xs.l lo hi); rw [ec]; exact hr⟩
    · have e5 := same_new (o := .tup (cutV vs lo hi)) (k3.free hl).1
      exact q _ _ _ (e4.trans e5) (k3.new hl) ⟨l, _, rfl, SqT.of upd_same, (hr.cut lo hi).mono e5⟩
theorem ev_catT {xs ys : Tp α} (ha : EvX K ta G xs G1) (hb : EvX K tb G1 ys G2) (hz : xs.l.length + ys.l.length ≤ sizeLine) : EvX K (tOp (rCatA K) ta tb) G (Tp.mk (xs.l ++ ys.l)) G2 := fun B S0 S σ H F k Q q =>
  ha B S0 S σ H F k _ fun v S1 H1 e1 k1 r1 => hb B S0 S1 σ H1 F k1 _ fun w S2 H2 e2 k2 r2 => by
    obtain ⟨p, vs, rfl, hp, hr⟩ := Py.mono e2 r1
    obtain ⟨p', vs', rfl, hp', hr'⟩ := r2
    refine ⟨p, p', vs, vs', rfl, rfl, seqT k2.sub hp, seqT k2.sub hp', by rw [hr.len, hr'.len]; exact hz, fun e => ?_, fun _ e => ?_, fun _ _ l hl => ?_⟩
    · have e1' : xs.l = [] := List.eq_nil_of_length_eq_zero (by rw [← hr.len, e]; rfl)
      exact q _ S2 H2 (e1.trans e2) k2 ⟨p', vs', rfl, hp', by show RepL K S2 vs' (xs.l ++ ys.l); rw [e1', List.nil_append]; exact hr'⟩
    · have e1' : ys.l = [] := List.eq_nil_of_length_eq_zero (by rw [← hr'.len, e]; rfl)
      exact q _ S2 H2 (e1.trans e2) k2 ⟨p, vs, rfl, hp, by show RepL K S2 vs (xs.l ++ ys.l); rw [e1', List.append_nil]; exact hr⟩
    · have e5 := same_new (o := .tup (vs ++ vs')) (k2.free hl).1
      exact q _ _ _ ((e1.trans e2).trans e5) (k2.new hl) ⟨l, _, rfl, SqT.of upd_same, (hr.app hr').mono e5⟩
/-! names set side by side -/
theorem q_par {x : α} {y : β} (ha : EvX K ta G x G1) (hb : EvX K tb G1 y G2) (hi : G2[i]?.isSome = true) (hj : (G2.set i (.im x))[j]?.isSome = true) (k : ∀ a b, a = x → b = y → At K B S0 (u E) ((G2.set i (.im a)).set j (.im b))) : At K B S0 (tSeq (tPar i j (tCons ta (tCons tb tNil))) u E) G := fun S σ H F kn =>
  ha B S0 S σ H F kn _ fun v S1 H1 e1 k1 r1 => hb B S0 S1 σ H1 F k1 _ fun w S2 H2 e2 k2 r2 => ⟨v, w, rfl, k x y rfl rfl S2 _ H2 F ((k2.set (Py.mono e2 r1) hi).set r2 hj)⟩
theorem q_par3 {x : α} {y : β} {z : γ} (ha : EvX K ta G x G1) (hb : EvX K tb G1 y G2) (hc : EvX K tc G2 z G3) (hi : G3[i]?.isSome = true) (hj : (G3.set i (.im x))[j]?.isSome = true) (hl : ((G3.set i (.im x)).set j (.im y))[l]?.isSome = true) (k : ∀ a b c, a = x → b = y → c = z → At K B S0 (u E) (((G3.set i (.im a)).set j (.im b)).set l (.im c))) :
    At K B S0 (tSeq (tPar3 i j l (tCons ta (tCons tb (tCons tc tNil)))) u E) G := fun S σ H F kn =>
  ha B S0 S σ H F kn _ fun v S1 H1 e1 k1 r1 => hb B S0 S1 σ H1 F k1 _ fun w S2 H2 e2 k2 r2 => hc B S0 S2 σ H2 F k2 _ fun z' S3 H3 e3 k3 r3 => ⟨v, w, z', rfl, k x y z rfl rfl rfl S3 _ H3 F (((k3.set (Py.mono (e2.trans e3) r1) hi).set (Py.mono e3 r2) hj).set r3 hl)⟩
end
/-! rows -/
variable {r : WRow}
theorem ev_row0 (ha : EvX K ta G r G1) : EvX K (tOp (rIxT K) ta (tC (.int 0))) G r.word G1 := fun B S0 S σ H F k Q q =>
  ha B S0 S σ H F k _ fun v S1 H1 e1 k1 r1 => by
    obtain ⟨p, rfl, hp⟩ := r1
    exact ⟨p, _, 0, .str r.word, rfl, rfl, seqT k1.sub hp, atI_nat (j := 0) rfl, q _ S1 H1 e1 k1 rfl⟩
theorem ev_row1 (ha : EvX K ta G r G1) (h : 0 < r.nums.length) : EvX K (tOp (rIxT K) ta (tC (.int 1))) G r.a1 G1 := fun B S0 S σ H F k Q q =>
  ha B S0 S σ H F k _ fun v S1 H1 e1 k1 r1 => by
    obtain ⟨p, rfl, hp⟩ := r1
    refine ⟨p, _, 1, .int r.a1, rfl, rfl, seqT k1.sub hp, atI_nat (j := 1) ?_, q _ S1 H1 e1 k1 rfl⟩
    cases r <;> first | rfl | exact absurd h (by simp [WRow.nums])
theorem ev_row2 (ha : EvX K ta G r G1) (h : 1 < r.nums.length) : EvX K (tOp (rIxT K) ta (tC (.int 2))) G r.a2 G1 := fun B S0 S σ H F k Q q =>
  ha B S0 S σ H F k _ fun v S1 H1 e1 k1 r1 => by
    obtain ⟨p, rfl, hp⟩ := r1
    refine ⟨p, _, 2, .int r.a2, rfl, rfl, seqT k1.sub hp, atI_nat (j := 2) ?_, q _ S1 H1 e1 k1 rfl⟩
    cases r <;> first | rfl | exact absurd h (by simp [WRow.nums])
/-- row[1:] -/
theorem ev_rowTl (ha : EvX K ta G r G) : EvX K (tSl (rSlA K) ta (tPart (tC (.int 1))) tNoPart) G (Tp.mk r.nums) G := fun B S0 S σ H F k Q q =>
  ha B S0 S σ H F k _ fun v S1 H1 e1 k1 r1 => by
    obtain ⟨p, rfl, hp⟩ := r1
    have hv : r.vals.length = r.nums.length + 1 := by unfold WRow.vals; rw [List.length_cons, List.length_map]
    have h1 : HT.sIx r.vals.length 0 (some 1) = 1 := by
      rw [show (1 : Int) = ((1 : Nat) : Int) from rfl, HT.sIx_nat, hv]
      omega
    refine ⟨1, rfl, p, _, rfl, seqT k1.sub hp, fun hw => ?_, fun _ l hl => ?_⟩
    · rw [h1] at hw
      exact absurd hw.1 (by decide)
    · have e5 := same_new (o := .tup (cutV r.vals (some 1) none)) (k1.free hl).1
      refine q _ _ _ (e1.trans e5) (k1.new hl) ⟨l, _, rfl, SqT.of upd_same, ?_⟩
      have ec : cutV r.vals (some 1) none = r.nums.map V.int := by
        unfold cutV
        rw [h1, HT.sIx_none]
        unfold WRow.vals
        rw [List.drop_succ_cons, List.drop_zero, List.take_of_length_le (by simp)]
      rw [ec]
      exact RepL.of_ints _
theorem ev_sortSetT {xs : Tp Int} (h : EvX K ta G xs G1) (hz : xs.l.length < 64) : EvL K (tSortSetT K ta) G (usrt xs.l) G1 := fun B S0 S σ H F k Q q =>
  h B S0 S σ H F k _ fun v S1 H1 e1 k1 r1 => by
    obtain ⟨p, vs, rfl, hp, hr⟩ := r1
    rw [hr.ints] at hp
    refine ⟨p, xs.l, rfl, seqT k1.sub hp, hz, fun ms l h1 h2 hl => ?_⟩
    have e : ms = usrt xs.l := usrt_eq h1 h2
    subst e
    obtain ⟨a, b, c⟩ := k1.free hl
    exact q l _ S1 _ e1 (k1.raw hl) a b c upd_same (RepL.of_ints _)
/-- rows told -/
theorem ev_mkrow2 {w : Str} {x y : Int} (r : WRow) (ha : EvX K ta G x G1) (hb : EvX K tb G1 y G2) (hr : r.vals = [.str w, .int x, .int y]) : EvX K (tTup (tCons (tC (.str w)) (tCons ta (tCons tb tNil)))) G r G2 := fun B S0 S σ H F k Q q =>
  ha B S0 S σ H F k _ fun v S1 H1 e1 k1 r1 => hb B S0 S1 σ H1 F k1 _ fun v2 S2 H2 e2 k2 r2 => ⟨by show 3 ≤ sizeLine; decide, fun p hp => by
    rw [show v = .int x from r1, show v2 = .int y from r2, ← hr]
    exact q (.ref p) _ _ ((e1.trans e2).trans (same_new (k2.free hp).1)) (k2.new hp) ⟨p, rfl, SqT.of upd_same⟩⟩
theorem ev_mkrow1 {w : Str} {x : Int} (r : WRow) (ha : EvX K ta G x G1) (hr : r.vals = [.str w, .int x]) : EvX K (tTup (tCons (tC (.str w)) (tCons ta tNil))) G r G1 := fun B S0 S σ H F k Q q =>
  ha B S0 S σ H F k _ fun v S1 H1 e1 k1 r1 => ⟨by show 2 ≤ sizeLine; decide, fun p hp => by
    rw [show v = .int x from r1, ← hr]
    exact q (.ref p) _ _ (e1.trans (same_new (k1.free hp).1)) (k1.new hp) ⟨p, rfl, SqT.of upd_same⟩⟩
theorem ev_mkrow0 {w : Str} (r : WRow) (hr : r.vals = [.str w]) : EvX K (tTup (tCons (tC (.str w)) tNil)) G r G := fun B S0 S σ H F k Q q => ⟨by show 1 ≤ sizeLine; decide, fun p hp => by
    rw [← hr]
    exact q (.ref p) _ _ (same_new (k.free hp).1) (k.new hp) ⟨p, rfl, SqT.of upd_same⟩⟩
theorem dp_ints {K : Fg} {H : Hp} : ∀ xs : List Int, DpAll K H (xs.map V.int) (xs.map PyData.int)
  | [] => .nil
  | _ :: xs => .cons (.int _) (dp_ints xs)
theorem row_word (r : WRow) : (PyData.str r.word).canLay0 = true := by
  cases r with
  | set p v => show (PyData.str (Str.ofString "set")).canLay0 = true; decide +kernel
  | add p v => show (PyData.str (Str.ofString "add")).canLay0 = true; decide +kernel
  | jump p v => show (PyData.str (Str.ofString "jump")).canLay0 = true; decide +kernel
  | say p => show (PyData.str (Str.ofString "say")).canLay0 = true; decide +kernel
  | take p => show (PyData.str (Str.ofString "take")).canLay0 = true; decide +kernel
  | fin => show (PyData.str (Str.ofString "end")).canLay0 = true; decide +kernel
theorem row_shaped (r : WRow) : SeqAt.shaped r.dat = true := by
  have h := row_word r
  unfold SeqAt.shaped WRow.dat
  rw [PyData.canLay0, PyData.canLayAll0, h]
  cases r <;> simp [WRow.nums, PyData.canLay0, PyData.canLayAll0, PyData.depth, PyData.depthAll]
theorem row_dp {v : V} (e : Same S H) (h : Py.rep K S v r) : Dp K H v r.dat := by
  obtain ⟨p, h1, h2⟩ := h
  rw [h1]
  exact .tup (seqT e h2) (.cons (.str _) (dp_ints _))
theorem row_eqv (r : WRow) : PyData.eqv r.dat WRow.fin.dat = decide (r = .fin) := by
  cases r <;> simp [WRow.dat, WRow.word, WRow.nums, PyData.eqv, PyData.eqvAll]
theorem ev_rowEnd (ha : EvX K ta G r G1) (hb : EvX K tb G1 WRow.fin G2) : EvX K (tOp (rEqD K) ta tb) G (decide (r = .fin)) G2 := fun B S0 S σ H F k Q q =>
  ha B S0 S σ H F k _ fun v S1 H1 e1 k1 r1 => hb B S0 S1 σ H1 F k1 _ fun w S2 H2 e2 k2 r2 =>
    ⟨_, _, row_dp k2.sub (Py.mono e2 r1), row_dp k2.sub r2, row_shaped r, row_shaped _, q _ S2 H2 (e1.trans e2) k2 (by rw [row_eqv]; rfl)⟩
/-! words in a tuple of words -/
theorem inV_strs (x : Str) : ∀ xs : List Str, inV (.str x) (xs.map V.str) = decide (x ∈ xs)
  | [] => rfl
  | y :: ys => by
    have ih := inV_strs x ys
    unfold inV at ih ⊢
    rw [List.map_cons, List.any_cons, ih]
    by_cases e : y = x
    · subst e
      simp [eqV]
    · have : ¬ x = y := fun z => e z.symm
      simp [eqV, e, this]
theorem RepL.strs {K : Fg} {S : Hp} : ∀ {vs : List V} {xs : List Str}, RepL K S vs xs → vs = xs.map V.str
  | [], [], _ => rfl
  | _ :: _, _ :: _, h => by
    rw [List.map_cons, ← RepL.strs h.2, show _ = V.str _ from h.1]
  | [], _ :: _, h => h.elim
  | _ :: _, [], h => h.elim
theorem flat_strs : ∀ xs : List Str, (xs.map V.str).all flatV = true
  | [] => rfl
  | _ :: xs => by rw [List.map_cons, List.all_cons, flat_strs xs]; rfl
theorem ev_inTs {x : Str} {xs : Tp Str} (ha : EvX K ta G x G) (hb : EvX K tb G xs G) : EvX K (tOp (rIn K false) ta tb) G (decide (x ∈ xs.l)) G := fun B S0 S σ H F k Q q =>
  ha B S0 S σ H F k _ fun v S1 H1 e1 k1 r1 => hb B S0 S1 σ H1 F k1 _ fun w S2 H2 e2 k2 r2 => by
    obtain ⟨p, vs, rfl, hp, hr⟩ := r2
    rw [hr.strs] at hp
    rw [show v = .str x from r1]
    exact ⟨p, _, rfl, .inr (seqT k2.sub hp), rfl, flat_strs _, q _ S2 H2 (e1.trans e2) k2 (by rw [inV_strs]; rfl)⟩
/-! a call that reads an owned list -/
theorem Kn.relLat {δ : Type} [Py δ] {d : List δ} {p : Addr} {us : List V} (k : Kn K B S0 S σ H F G) (h : G[i]? = some (.ow d)) (hv : σ[i]? = some (some (.ref p))) (hp : F i = [p]) (h1 : H p = some (.lst us)) (h2 : RepL K S us d) : Kn K B S0 (upd S p (.lst us)) σ H (upF F i []) (G.set i (.im d)) := by
  obtain ⟨hs, hb, _⟩ := k.off i p (by rw [hp]; exact List.mem_singleton.mpr rfl)
  have k1 : Kn K B S0 S σ H (upF F i []) (G.set i .no) := by
    refine ⟨k.s0, k.sub, k.keep, k.clean, fun j q hq => ?_, fun a b q ha hb' => ?_, by rw [List.length_set]; exact k.len, fun j s e => ?_⟩
    · by_cases e : j = i
      · rw [e, upF_self] at hq
        cases hq
      · rw [upF_ne e] at hq
        exact k.off j q hq
    · by_cases ea : a = i
      · rw [ea, upF_self] at ha
        cases ha
      · by_cases eb : b = i
        · rw [eb, upF_self] at hb'
          cases hb'
        · rw [upF_ne ea] at ha
          rw [upF_ne eb] at hb'
          exact k.dj a b q ha hb'
    · rcases set_get e with ⟨rfl, rfl⟩ | ⟨ne, e⟩
      · exact True.intro
      · rw [upF_ne ne]
        exact k.sl j s e
  have hf : ∀ j, p ∉ upF F i [] j := fun j hj => by
    by_cases e : j = i
    · rw [e, upF_self] at hj
      cases hj
    · rw [upF_ne e] at hj
      exact e (k.dj j i p hj (by rw [hp]; exact List.mem_singleton.mpr rfl))
  have k2 := k1.settle h1 hs hb hf
  have hl : i < G.length := (List.getElem?_eq_some_iff.mp h).1
  have k3 := k2.set (i := i) (v := .ref p) (x := d) ⟨p, us, rfl, upd_same, h2.mono (same_new hs)⟩ (by rw [List.getElem?_set_self hl]; rfl)
  have e1 : σ.set i (some (.ref p)) = σ := by
    apply List.ext_getElem?
    intro j
    by_cases e : i = j
    · subst e
      rw [List.getElem?_set_self (by rw [← k.len]; exact hl)]
      exact hv.symm
    · rw [List.getElem?_set_ne e]
  rw [e1, List.set_set] at k3
  exact k3
theorem ev_callBL {δ α β : Type} [Py δ] [PyA α] [Py β] [NoL β] {f : α → β} {pre : α → Prop} {a : α} {t : TA} {E : XK} {d : List δ} (hi : G[i]? = some (.ow d)) (ha : EvV K t (G.set i (.im d)) a) (hp : pre a) : EvX K (tCall (spF K f pre) [] E t) G (f a) G := fun B S0 S σ H F k Q q => by
  obtain ⟨v, hv, p, us, rfl, hF, h1, h2⟩ := k.ow hi
  obtain ⟨hs, hb, _⟩ := k.off i p (by rw [hF]; exact List.mem_singleton.mpr rfl)
  have k' := k.relLat hi hv hF h1 h2
  refine ha B S0 _ σ H _ k' _ fun vs r => ?_
  show spF K f pre (vs ++ []) H _ E
  rw [List.append_nil]
  refine ⟨upd S p (.lst us), a, k'.sub, r, hp, fun w S2 H2 g r2 => ?_⟩
  have gl := g.lent hs
  exact q w (del S2 p) H2 gl.s (k.grow gl) (NoL.go (g.s _ _ upd_same) r2)
end
end GL

/-! Tuples of four. -/
namespace GL
open PySem PySem.Spec PyProof.Rows L2
structure T4 (α β γ δ : Type) where
  a : α
  b : β
  c : γ
  d : δ
  deriving DecidableEq
section
variable {α β γ δ ε : Type} [Py α] [Py β] [Py γ] [Py δ] [Py ε]
instance : Py (T4 α β γ δ) := ⟨fun K S v x => ∃ p a b c d, v = .ref p ∧ SqT K S p [a, b, c, d] ∧ Py.rep K S a x.a ∧ Py.rep K S b x.b ∧ Py.rep K S c x.c ∧ Py.rep K S d x.d,
  fun z ⟨p, a, b, c, d, h1, h2, h3, h4, h5, h6⟩ => ⟨p, a, b, c, d, h1, seqT z h2, Py.mono z h3, Py.mono z h4, Py.mono z h5, Py.mono z h6⟩⟩
instance (priority := 500) [Dq α] [Dq β] [Dq γ] [Dq δ] : Dq (T4 α β γ δ) := ⟨fun x => .tuple [Dq.dat x.a, Dq.dat x.b, Dq.dat x.c, Dq.dat x.d], fun x => Dq.ok x.a ∧ Dq.ok x.b ∧ Dq.ok x.c ∧ Dq.ok x.d, fun e ⟨p, a, b, c, d, h1, h2, h3, h4, h5, h6⟩ => by rw [h1]; exact .tup (seqT e h2) (.cons (Dq.dp e h3) (.cons (Dq.dp e h4) (.cons (Dq.dp e h5) (.cons (Dq.dp e h6) .nil)))),
  fun x h => by simp [PyData.canLay0, PyData.canLayAll0, Dq.lay _ h.1, Dq.lay _ h.2.1, Dq.lay _ h.2.2.1, Dq.lay _ h.2.2.2], max (Dq.dep α) (max (Dq.dep β) (max (Dq.dep γ) (Dq.dep δ))) + 1, fun x => by
    have h1 := Dq.dle x.a
    have h2 := Dq.dle x.b
    have h3 := Dq.dle x.c
    have h4 := Dq.dle x.d
    simp only [PyData.depth, PyData.depthAll]
    omega, fun x y => by
    simp only [PyData.eqv, PyData.eqvAll, Bool.and_eq_true, Dq.eq, and_true]
    cases x; cases y
    simp⟩
variable {K : Fg} {G G1 G2 G3 G4 : List Sl} {ta tb tc td : TE}
theorem ev_t4 {x : α} {y : β} {z : γ} {w : δ} (ha : EvX K ta G x G1) (hb : EvX K tb G1 y G2) (hc : EvX K tc G2 z G3) (hd : EvX K td G3 w G4) : EvX K (tTup (tCons ta (tCons tb (tCons tc (tCons td tNil))))) G (T4.mk x y z w) G4 := fun B S0 S σ H F k Q q =>
  ha B S0 S σ H F k _ fun v1 S1 H1 e1 k1 r1 => hb B S0 S1 σ H1 F k1 _ fun v2 S2 H2 e2 k2 r2 => hc B S0 S2 σ H2 F k2 _ fun v3 S3 H3 e3 k3 r3 => hd B S0 S3 σ H3 F k3 _ fun v4 S4 H4 e4 k4 r4 => ⟨by show 4 ≤ sizeLine; decide, fun p hp => by
    have e6 := same_new (o := .tup [v1, v2, v3, v4]) (k4.free hp).1
    exact q (.ref p) _ _ ((((e1.trans e2).trans e3).trans e4).trans e6) (k4.new hp) ⟨p, v1, v2, v3, v4, rfl, SqT.of upd_same, Py.mono (((e2.trans e3).trans e4).trans e6) r1, Py.mono ((e3.trans e4).trans e6) r2, Py.mono (e4.trans e6) r3, Py.mono e6 r4⟩⟩
theorem ev_ninT {tb : TE} {x : Int} {xs : Tp Int} (ha : EvX K ta G x G) (hb : EvX K tb G xs G) : EvX K (tOp (rIn K true) ta tb) G (!decide (x ∈ xs.l)) G := fun B S0 S σ H F k Q q =>
  ha B S0 S σ H F k _ fun v S1 H1 e1 k1 r1 => hb B S0 S1 σ H1 F k1 _ fun w S2 H2 e2 k2 r2 => by
    obtain ⟨p, vs, rfl, hp, hr⟩ := r2
    rw [hr.ints] at hp
    rw [show v = .int x from r1]
    exact ⟨p, _, rfl, .inr (seqT k2.sub hp), rfl, flat_ints _, q _ S2 H2 (e1.trans e2) k2 (by rw [inV_ints]; rfl)⟩
/-- x[1:], x of five -/
theorem ev_tl5 {x : T5 α β γ δ ε} (ha : EvX K ta G x G) : EvX K (tSl (rSlA K) ta (tPart (tC (.int 1))) tNoPart) G (T4.mk x.b x.c x.d x.e) G := fun B S0 S σ H F k Q q =>
  ha B S0 S σ H F k _ fun v S1 H1 e1 k1 r1 => by
    obtain ⟨p, a, b, c, d, e, rfl, hp, h1, h2, h3, h4, h5⟩ := r1
    refine ⟨1, rfl, p, _, rfl, seqT k1.sub hp, fun hw => absurd (show HT.sIx 5 0 (some 1) = 0 from hw.1) (by decide), fun _ l hl => ?_⟩
    have e6 := same_new (o := .tup [b, c, d, e]) (k1.free hl).1
    exact q _ _ _ (e1.trans e6) (k1.new hl) ⟨l, b, c, d, e, rfl, .inl (.inl (by simp [upd])), Py.mono e6 h2, Py.mono e6 h3, Py.mono e6 h4, Py.mono e6 h5⟩
end
section
variable {K : Fg} {G G1 G2 : List Sl} {ta tb : TE}
theorem ev_lastC {α : Type} [Py α] [Inhabited α] {xs : List α} (ha : EvC K ta G xs G) (hb : EvX K tb G (-1) G) (h : 0 < xs.length) : EvX K (tOp (rIxL K) ta tb) G (lastI xs) G := fun B S0 S σ H F k Q q =>
  ha B S0 S σ H F k _ fun v S1 H1 e1 k1 r1 => hb B S0 S1 σ H1 F k1 _ fun u S2 H2 e2 k2 r2 => by
    obtain ⟨p, vs, rfl, hp, hr⟩ := (r1.mono e2).at k2
    obtain ⟨w, h1, h2⟩ := hr.get (ix_at (xs := xs) (i := (xs.length : Int) - 1) (by omega) (by omega))
    have hl := hr.len
    have e : atI vs (-1) = some w := by
      obtain ⟨init, last, rfl⟩ : ∃ init last, vs = init ++ [last] := by
        rcases List.eq_nil_or_concat vs with q | ⟨i, l, q⟩
        · rw [q] at hl; simp at hl; omega
        · exact ⟨i, l, by rw [q]; simp⟩
      rw [List.length_append, List.length_singleton] at hl
      rw [show ((xs.length : Int) - 1).toNat = init.length by omega, List.getElem?_append_right (Nat.le_refl _), Nat.sub_self] at h1
      have e1 : last = w := Option.some.inj h1
      rw [← e1]
      exact atI_last init last
    exact ⟨p, vs, -1, w, rfl, r2, SqL.of hp, e, q w S2 H2 (e1.trans e2) k2 h2⟩
end
end GL

namespace GL
open PySem PySem.Spec PyProof.Rows L2
/-! ### dicts -/
namespace Dct
variable {α : Type}
theorem get?_emp (k : Int) : (emp : Dct α).get? k = none := rfl
theorem find_map (k : Int) (x : α) (j : Int) : ∀ l : List (Int × α), ((l.map fun kv => if kv.1 = k then (kv.1, x) else kv).find? fun kv => decide (kv.1 = j)).map (·.2) = ((l.find? fun kv => decide (kv.1 = j)).map (·.2)).map fun y => if j = k then x else y
  | [] => rfl
  | p :: l => by
    rw [List.map_cons, List.find?_cons, List.find?_cons]
    by_cases h1 : p.1 = j
    · by_cases h2 : p.1 = k
      · have : j = k := h1.symm.trans h2
        subst this
        simp [h1]
      · have : ¬ j = k := fun e => h2 (h1.trans e)
        simp [h1, this]
    · have ih := find_map k x j l
      by_cases h2 : p.1 = k
      · simp only [h2, if_true]
        have h3 : ¬ k = j := fun e => h1 (h2.trans e)
        simp only [decide_eq_false h3]
        exact ih
      · simp only [h2, if_false, decide_eq_false h1]
        exact ih
theorem any_find (k : Int) : ∀ l : List (Int × α), (l.any fun kv => decide (kv.1 = k)) = ((l.find? fun kv => decide (kv.1 = k)).map (·.2)).isSome
  | [] => rfl
  | p :: l => by
    rw [List.any_cons, List.find?_cons, any_find k l]
    by_cases h : p.1 = k
    · simp [h]
    · simp [h]
theorem find_snoc (k : Int) (x : α) (j : Int) : ∀ l : List (Int × α), ((l ++ [(k, x)]).find? fun kv => decide (kv.1 = j)).map (·.2) = match (l.find? fun kv => decide (kv.1 = j)).map (·.2) with | some y => some y | none => if j = k then some x else none
  | [] => by
    by_cases h : k = j
    · subst h; simp
    · have : ¬ j = k := fun e => h e.symm
      simp [h, this]
  | p :: l => by
    rw [List.cons_append, List.find?_cons, List.find?_cons]
    by_cases h : p.1 = j
    · simp [h]
    · simp only [decide_eq_false h]
      exact find_snoc k x j l
theorem get?_put (d : Dct α) (k : Int) (x : α) (j : Int) : (d.put k x).get? j = if j = k then some x else d.get? j := by
  unfold get? put
  by_cases h : (d.l.any fun kv => decide (kv.1 = k)) = true
  · simp only [h, if_true]
    rw [find_map]
    by_cases e : j = k
    · subst e
      rw [any_find] at h
      cases q : (d.l.find? fun kv => decide (kv.1 = j)).map (·.2) with
      | none => rw [q] at h; cases h
      | some y => simp
    · simp only [e, if_false]
      cases (d.l.find? fun kv => decide (kv.1 = j)).map (·.2) <;> rfl
  · simp only [h, if_false, Bool.false_eq_true]
    rw [find_snoc]
    by_cases e : j = k
    · subst e
      rw [any_find] at h
      cases q : (d.l.find? fun kv => decide (kv.1 = j)).map (·.2) with
      | none => simp
      | some y => rw [q] at h; exact absurd rfl h
    · simp only [e, if_false]
      cases (d.l.find? fun kv => decide (kv.1 = j)).map (·.2) <;> rfl
theorem get?_del (d : Dct α) (k j : Int) : (d.del k).get? j = if j = k then none else d.get? j := by
  unfold get? del
  show ((d.l.filter fun kv => decide (kv.1 ≠ k)).find? fun kv => decide (kv.1 = j)).map (·.2) = _
  induction d.l with
  | nil => simp
  | cons p l ih =>
    rw [List.filter_cons]
    by_cases h : p.1 = k
    · rw [if_neg (by simp [h]), ih, List.find?_cons]
      by_cases e : j = k
      · simp [e]
      · have : ¬ p.1 = j := fun q => e (q.symm.trans h)
        simp [e, this]
    · rw [if_pos (by simp [h]), List.find?_cons, List.find?_cons]
      by_cases e : p.1 = j
      · have : ¬ j = k := fun q => h (e.trans q)
        simp [e, this]
      · simp only [decide_eq_false e]
        exact ih
/-- the keys differ and lie below m -/
def Ok (d : Dct α) (m : Int) : Prop := (d.l.map (·.1)).Nodup ∧ ∀ k ∈ d.l.map (·.1), 0 ≤ k ∧ k < m
theorem Ok.emp {m : Int} : Ok (emp : Dct α) m := ⟨List.nodup_nil, fun _ h => by simp [Dct.emp] at h⟩
theorem keys_put (d : Dct α) (k : Int) (x : α) : (d.put k x).l.map (·.1) = if (d.l.any fun kv => decide (kv.1 = k)) = true then d.l.map (·.1) else d.l.map (·.1) ++ [k] := by
  unfold put
  by_cases h : (d.l.any fun kv => decide (kv.1 = k)) = true
  · simp only [h, if_true]
    rw [List.map_map]
    apply List.map_congr_left
    intro p _
    show (if p.1 = k then (p.1, x) else p).1 = p.1
    split <;> rfl
  · simp only [h, if_false, Bool.false_eq_true]
    rw [List.map_append]
    rfl
theorem Ok.put {d : Dct α} {m : Int} (h : d.Ok m) {k : Int} (x : α) (hk : 0 ≤ k ∧ k < m) : (d.put k x).Ok m := by
  unfold Ok
  rw [keys_put]
  by_cases q : (d.l.any fun kv => decide (kv.1 = k)) = true
  · rw [if_pos q]
    exact h
  · rw [if_neg q]
    refine ⟨?_, fun j hj => ?_⟩
    · refine L2.nd_snoc h.1 fun hm => q ?_
      obtain ⟨p, hp, e⟩ := List.mem_map.mp hm
      exact List.any_eq_true.mpr ⟨p, hp, decide_eq_true e⟩
    · rcases List.mem_append.mp hj with z | z
      · exact h.2 j z
      · rw [List.mem_singleton.mp z]
        exact hk
theorem Ok.del {d : Dct α} {m : Int} (h : d.Ok m) (k : Int) : (d.del k).Ok m := by
  refine ⟨?_, fun j hj => ?_⟩
  · show ((d.l.filter fun kv => decide (kv.1 ≠ k)).map (·.1)).Nodup
    exact (List.Sublist.map _ (List.filter_sublist)).nodup h.1
  · obtain ⟨p, hp, e⟩ := List.mem_map.mp hj
    exact h.2 j (List.mem_map.mpr ⟨p, (List.mem_filter.mp hp).1, e⟩)
theorem nodup_le : ∀ (n : Nat) (l : List Int), l.Nodup → (∀ k ∈ l, 0 ≤ k ∧ k < (n : Int)) → l.length ≤ n
  | 0, l, _, h => by
    cases l with
    | nil => exact Nat.le_refl _
    | cons x l => exact absurd (h x List.mem_cons_self) (by omega)
  | n + 1, l, hn, h => by
    have h1 := nodup_le n (l.filter fun k => decide (k ≠ (n : Int))) (List.filter_sublist.nodup hn) fun k hk => by
      obtain ⟨a, b⟩ := List.mem_filter.mp hk
      have := h k a
      have : k ≠ (n : Int) := of_decide_eq_true b
      omega
    have h2 : l.length ≤ (l.filter fun k => decide (k ≠ (n : Int))).length + 1 := by
      clear h h1
      induction l with
      | nil => exact Nat.zero_le _
      | cons x l ih =>
        obtain ⟨q1, q2⟩ := List.nodup_cons.mp hn
        rw [List.filter_cons]
        by_cases e : x = (n : Int)
        · rw [if_neg (by simp [e])]
          have : l.filter (fun k => decide (k ≠ (n : Int))) = l := by
            apply List.filter_eq_self.mpr
            intro k hk
            exact decide_eq_true fun z => q1 (e.trans z.symm ▸ hk)
          rw [this, List.length_cons]
          exact Nat.le_refl _
        · rw [if_pos (by simp [e]), List.length_cons, List.length_cons]
          have := ih q2
          omega
    omega
theorem Ok.len {d : Dct α} {n : Nat} (h : d.Ok (n : Int)) : d.l.length ≤ n := by
  have := nodup_le n (d.l.map (·.1)) h.1 h.2
  rw [List.length_map] at this
  exact this
theorem Ok.small {d : Dct α} (h : d.Ok 1000) : d.l.length < sizeLine := Nat.lt_of_le_of_lt (Ok.len (n := 1000) h) (by decide)
end Dct
theorem dix_put {α : Type} [Inhabited α] (d : Dct α) (k : Int) (x : α) (j : Int) : dix (d.put k x) j = if j = k then x else dix d j := by
  unfold dix
  rw [Dct.get?_put]
  split <;> rfl
theorem dix_of {α : Type} [Inhabited α] {d : Dct α} {k : Int} {x : α} (h : d.get? k = some x) : dix d k = x := by
  unfold dix
  rw [h]
  rfl
/-! ### ranges -/
theorem mem_rng {a b x : Int} : x ∈ rng a b ↔ a ≤ x ∧ x < b := by
  unfold rng
  rw [List.mem_map]
  constructor
  · rintro ⟨i, hi, rfl⟩
    rw [List.mem_range] at hi
    omega
  · intro h
    refine ⟨(x - a).toNat, List.mem_range.mpr (by omega), by omega⟩
theorem len_rng (a b : Int) : (rng a b).length = (b - a).toNat := by
  unfold rng
  rw [List.length_map, List.length_range]
theorem rng_get {a b : Int} {i : Nat} (h : i < (b - a).toNat) : (rng a b)[i]? = some (a + (i : Int)) := by
  unfold rng
  rw [List.getElem?_map, List.getElem?_range h]
  rfl
theorem rng_succ {a b : Int} (h : a ≤ b) : rng a (b + 1) = rng a b ++ [b] := by
  unfold rng
  rw [show (b + 1 - a).toNat = (b - a).toNat + 1 by omega, List.range_succ, List.map_append]
  congr 1
  rw [List.map_cons, List.map_nil]
  congr 1
  omega
theorem rng_nil {a b : Int} (h : b ≤ a) : rng a b = [] := by
  unfold rng
  rw [show (b - a).toNat = 0 by omega]
  rfl
theorem rng_sorted (a b : Int) : (rng a b).Pairwise (· < ·) := by
  unfold rng
  rw [List.pairwise_map]
  exact List.pairwise_lt_range.imp fun h => by omega
theorem rng_nodup (a b : Int) : (rng a b).Nodup := by
  have h := (rng_sorted a b)
  exact h.imp fun q => by omega
theorem rng_pre {a b x : Int} {pre post : List Int} (h : pre ++ x :: post = rng a b) : pre = rng a x ∧ x = a + pre.length ∧ a ≤ x ∧ x < b := by
  have hx : (rng a b)[pre.length]? = some x := by
    rw [← h, List.getElem?_append_right (Nat.le_refl _), Nat.sub_self]
    rfl
  have hl : pre.length < (b - a).toNat := by
    have := congrArg List.length h
    rw [List.length_append, List.length_cons, len_rng] at this
    omega
  rw [rng_get hl] at hx
  have ex : a + (pre.length : Int) = x := Option.some.inj hx
  refine ⟨?_, ex.symm, by omega, by omega⟩
  apply List.ext_getElem?
  intro i
  by_cases hi : i < pre.length
  · have : (rng a b)[i]? = pre[i]? := by rw [← h, List.getElem?_append_left hi]
    rw [← this, rng_get (by omega), rng_get (by omega)]
  · rw [List.getElem?_eq_none (by omega), List.getElem?_eq_none (by rw [len_rng]; omega)]
theorem enumI_nil {α : Type} : enumI ([] : List α) = [] := rfl
theorem enumI_snoc {α : Type} (xs : List α) (x : α) : enumI (xs ++ [x]) = enumI xs ++ [((xs.length : Int), x)] := by
  unfold enumI
  rw [List.zipIdx_append, List.map_append]
  simp
theorem mem_enumI {α : Type} {xs : List α} {p : Int × α} : p ∈ enumI xs ↔ 0 ≤ p.1 ∧ xs[p.1.toNat]? = some p.2 := by
  unfold enumI
  rw [List.mem_map]
  constructor
  · rintro ⟨q, hq, rfl⟩
    have h := List.mem_zipIdx_iff_getElem?.mp hq
    exact ⟨by simp, by simpa using h⟩
  · rintro ⟨h0, h⟩
    refine ⟨(p.2, p.1.toNat), List.mem_zipIdx_iff_getElem?.mpr (by simpa using h), ?_⟩
    apply Prod.ext
    · show ((p.1.toNat : Nat) : Int) = p.1
      omega
    · rfl
theorem len_enumI {α : Type} (xs : List α) : (enumI xs).length = xs.length := by
  unfold enumI
  rw [List.length_map, List.length_zipIdx]
/-! ### traces -/
instance : Inhabited (Tp Int) := ⟨⟨[]⟩⟩
structure TrOk (trace : List (Tp Int)) : Prop where
  len : trace.length ≤ 100000
  mem : ∀ t ∈ trace, ∀ s ∈ t.l, 0 ≤ s ∧ s < 1000
theorem ix_mem {α : Type} [Inhabited α] {xs : List α} {i : Int} (h0 : 0 ≤ i) (h : i < xs.length) : ix xs i ∈ xs := List.mem_of_getElem? (ix_at h0 h)
def writtenStep (trace : List (Tp Int)) (found : Dct Int) (tick : Int) : Dct Int := (ix trace tick).l.foldl (fun f x => f.put x tick) found
def writtenIn (trace : List (Tp Int)) (start stop : Int) : Dct Int := (rng start (min stop trace.length)).foldl (writtenStep trace) Dct.emp
theorem put_ok {l : List Int} {tick m : Int} : ∀ {d : Dct Int}, d.Ok m → (∀ s ∈ l, 0 ≤ s ∧ s < m) → (l.foldl (fun f x => f.put x tick) d).Ok m := by
  induction l with
  | nil => intro d h _; exact h
  | cons x l ih =>
    intro d h hl
    exact ih (h.put tick (hl x List.mem_cons_self)) fun s hs => hl s (List.mem_cons_of_mem _ hs)
theorem step_ok {trace : List (Tp Int)} (ht : TrOk trace) {l : List Int} : ∀ {d : Dct Int}, d.Ok 1000 → (∀ t ∈ l, 0 ≤ t ∧ t < trace.length) → (l.foldl (writtenStep trace) d).Ok 1000 := by
  induction l with
  | nil => intro d h _; exact h
  | cons x l ih =>
    intro d h hl
    obtain ⟨h0, h1⟩ := hl x List.mem_cons_self
    exact ih (put_ok h (ht.mem _ (ix_mem h0 h1))) fun s hs => hl s (List.mem_cons_of_mem _ hs)
theorem wr_size {trace : List (Tp Int)} {start stop tick sheet : Int} {pre0 post0 pre1 post1 : List Int} {found s0 s1 : Dct Int} (ht : TrOk trace) (h0 : 0 ≤ start) (hf : found = Dct.emp) (ex0 : pre0 ++ tick :: post0 = rng start (min stop trace.length)) (hs0 : s0 = pre0.foldl (writtenStep trace) found)
    (ex1 : pre1 ++ sheet :: post1 = (ix trace tick).l) (hs1 : s1 = pre1.foldl (fun f x => f.put x tick) s0) : s1.l.length < sizeLine := by
  obtain ⟨e1, _, a1, a2⟩ := rng_pre ex0
  subst hs1 hs0 hf
  refine (put_ok (step_ok ht Dct.Ok.emp fun t hm => ?_) fun s hs => ?_ : Dct.Ok _ 1000).small
  · rw [e1, mem_rng] at hm
    omega
  · exact ht.mem (ix trace tick) (ix_mem (by omega) (by omega)) s (by rw [← ex1]; exact List.mem_append_left _ hs)
theorem rng_at {trace : List (Tp Int)} {start stop tick : Int} {pre0 post0 : List Int} (h0 : 0 ≤ start) (ex0 : pre0 ++ tick :: post0 = rng start (min stop trace.length)) : 0 ≤ tick ∧ tick < trace.length := by
  obtain ⟨_, _, a1, a2⟩ := rng_pre ex0
  omega
/-- the last of the first n ticks at which s is written -/
def lastN (trace : List (Tp Int)) : Nat → Int → Option Int
  | 0, _ => none
  | n + 1, s => if s ∈ (trace.getD n ⟨[]⟩).l then some (n : Int) else lastN trace n s
theorem get?_puts (tick : Int) (s : Int) : ∀ (l : List Int) (d : Dct Int), (l.foldl (fun f x => f.put x tick) d).get? s = if s ∈ l then some tick else d.get? s
  | [], d => by simp
  | x :: l, d => by
    rw [List.foldl_cons, get?_puts tick s l, Dct.get?_put]
    by_cases h1 : s ∈ l
    · simp [h1]
    · by_cases h2 : s = x
      · simp [h2]
      · simp [h1, h2]
theorem lastN_more (trace : List (Tp Int)) (s : Int) : ∀ n, trace.length ≤ n → lastN trace n s = lastN trace trace.length s := by
  intro n h
  induction n with
  | zero => rw [show trace.length = 0 by omega]
  | succ n ih =>
    by_cases e : trace.length = n + 1
    · rw [e]
    · rw [lastN, if_neg, ih (by omega)]
      rw [List.getD_eq_getElem?_getD, List.getElem?_eq_none (by omega)]
      simp
theorem written_last (trace : List (Tp Int)) (s : Int) : ∀ n : Nat, n ≤ trace.length → ((rng 0 (n : Int)).foldl (writtenStep trace) Dct.emp).get? s = lastN trace n s
  | 0, _ => by rw [rng_nil (by omega)]; rfl
  | n + 1, h => by
    rw [show ((n + 1 : Nat) : Int) = (n : Int) + 1 by omega, rng_succ (by omega), List.foldl_append, List.foldl_cons, List.foldl_nil]
    show ((ix trace (n : Int)).l.foldl (fun (f : Dct Int) x => f.put x (n : Int)) _).get? s = _
    rw [get?_puts, written_last trace s n (by omega), lastN]
    have : ix trace (n : Int) = trace.getD n ⟨[]⟩ := by unfold ix; rfl
    rw [this]
theorem writtenIn_get (trace : List (Tp Int)) (stop s : Int) : (writtenIn trace 0 stop).get? s = lastN trace stop.toNat s := by
  unfold writtenIn
  by_cases h : stop < 0
  · rw [rng_nil (by omega), show stop.toNat = 0 by omega]
    rfl
  · by_cases h2 : stop ≤ trace.length
    · rw [Int.min_eq_left h2]
      have e : stop = ((stop.toNat : Nat) : Int) := by omega
      rw [e]
      rw [written_last trace s stop.toNat (by omega)]
      rfl
    · rw [Int.min_eq_right (by omega), written_last trace s trace.length (Nat.le_refl _), lastN_more trace s stop.toNat (by omega)]
theorem lastN_some {trace : List (Tp Int)} {s : Int} : ∀ {n : Nat} {t : Int}, lastN trace n s = some t → 0 ≤ t ∧ t < n ∧ s ∈ (trace.getD t.toNat ⟨[]⟩).l
  | 0, t, h => by cases h
  | n + 1, t, h => by
    rw [lastN] at h
    by_cases q : s ∈ (trace.getD n ⟨[]⟩).l
    · rw [if_pos q] at h
      cases h
      exact ⟨by omega, by omega, by simpa using q⟩
    · rw [if_neg q] at h
      obtain ⟨a, b, c⟩ := lastN_some h
      exact ⟨a, by omega, c⟩
end GL

namespace GL
open PySem PySem.Spec PyProof.Rows L2
/-! ### the laws' own helpers -/
theorem ix_all {α : Type} [Inhabited α] {P : α → Prop} {xs : List α} {i : Int} (h : ∀ y ∈ xs, P y) (hi : 0 ≤ i ∧ i < xs.length) : P (ix xs i) := h _ (ix_mem hi.1 hi.2)
theorem ix_2 {i a b : Int} (h : 0 ≤ i ∧ i < 2) : 0 ≤ i ∧ i < ([a, b] : List Int).length := h
theorem ix3 {i a b c : Int} (h : 0 ≤ i ∧ i < 3) : 0 ≤ i ∧ i < ([a, b, c] : List Int).length := h
theorem ix_4 {i a b c d : Int} (h : 0 ≤ i ∧ i < 4) : 0 ≤ i ∧ i < ([a, b, c, d] : List Int).length := h
theorem ix_5 {i a b c d e : Int} (h : 0 ≤ i ∧ i < 5) : 0 ≤ i ∧ i < ([a, b, c, d, e] : List Int).length := h
theorem ix_6 {i a b c d e f : Int} (h : 0 ≤ i ∧ i < 6) : 0 ≤ i ∧ i < ([a, b, c, d, e, f] : List Int).length := h
theorem ix_7 {i a b c d e f g : Int} (h : 0 ≤ i ∧ i < 7) : 0 ≤ i ∧ i < ([a, b, c, d, e, f, g] : List Int).length := h
structure SzOk (y : T3 Int Int Int) : Prop where
  n0 : 1 ≤ y.a
  n1 : y.a ≤ 12
  b0 : 1 ≤ y.b
  b1 : y.b ≤ 6
  s0 : 0 ≤ y.c
  s1 : y.c ≤ 12
theorem sz_i (z : Spr) : 4 ≤ ix ([4, 8, 12] : List Int) (lawCup z 3).1 ∧ ix ([4, 8, 12] : List Int) (lawCup z 3).1 ≤ 12 := ix_all (P := fun y => 4 ≤ y ∧ y ≤ 12) (by decide) (ix3 (cup_bd z (by decide)))
theorem sz_m {z : Spr} : 0 < ix ([4, 8, 12] : List Int) (lawCup z 3).1 ∧ ix ([4, 8, 12] : List Int) (lawCup z 3).1 < 1073741824 := by
  have := sz_i z
  omega
theorem sz_n {z : Spr} {n : Int} (h : n = 1 + (lawCup (lawCup z 3).2 (ix [4, 8, 12] (lawCup z 3).1)).1) : 1 ≤ n ∧ n ≤ 12 := by
  have h1 := sz_i z
  have h2 := cup_bd (lawCup z 3).2 (m := ix [4, 8, 12] (lawCup z 3).1) (by omega)
  omega
theorem sz_b {z : Spr} {b : Int} (h : b = ix [1, 1, 2, 3, 1 + (lawCup z 6).1] (lawCup (lawCup z 6).2 5).1) : 1 ≤ b ∧ b ≤ 6 := by
  have h1 := cup_bd z (m := 6) (by decide)
  rw [h]
  exact ix_all (P := fun y => 1 ≤ y ∧ y ≤ 6) (by simp; omega) (ix_5 (cup_bd _ (by decide)))
theorem sz_ok {z : Spr} {n b : Int} (hn : 1 ≤ n ∧ n ≤ 12) (hb : 1 ≤ b ∧ b ≤ 6) : SzOk ⟨n, b, ix [0, 0, 1, 2, 3, n, (lawCup z 13).1] (lawCup (lawCup z 13).2 7).1⟩ := by
  have h1 := cup_bd z (m := 13) (by decide)
  have h2 : 0 ≤ ix [0, 0, 1, 2, 3, n, (lawCup z 13).1] (lawCup (lawCup z 13).2 7).1 ∧ ix [0, 0, 1, 2, 3, n, (lawCup z 13).1] (lawCup (lawCup z 13).2 7).1 ≤ 12 :=
    ix_all (P := fun y => 0 ≤ y ∧ y ≤ 12) (by simp; omega) (ix_7 (cup_bd _ (by decide)))
  exact ⟨hn.1, hn.2, hb.1, hb.2, h2.1, h2.2⟩
structure RowOk (n : Int) (t : Tp Int) : Prop where
  up : t.l.Pairwise (· < ·)
  bd : ∀ s ∈ t.l, 0 ≤ s ∧ s < n
structure TrLaw (n most : Int) (tr : List (Tp Int)) : Prop where
  len : (tr.length : Int) ≤ most
  row : ∀ t ∈ tr, RowOk n t
theorem Dct.Ok.mono {α : Type} {d : Dct α} {m m' : Int} (h : d.Ok m) (hm : m ≤ m') : d.Ok m' := ⟨h.1, fun k hk => by have := h.2 k hk; omega⟩
theorem row_ok {n : Int} {d : Dct Bool} (h : d.Ok n) : RowOk n ⟨srt (d.l.map (·.1))⟩ := by
  have hp := srt_perm (d.l.map (·.1))
  refine ⟨?_, fun s hs => h.2 s (hp.mem_iff.mp hs)⟩
  have hn : (srt (d.l.map (·.1))).Nodup := hp.nodup_iff.mpr h.1
  have hs := srt_sorted (d.l.map (·.1))
  exact (hs.and hn).imp fun ⟨a, b⟩ => by omega
theorem tr_many {n : Int} {z : Spr} (n0 : 1 ≤ n) (n1 : n ≤ 12) : 0 ≤ ix [0, 0, 1, 1, 2, n] (lawCup z 6).1 ∧ ix [0, 0, 1, 1, 2, n] (lawCup z 6).1 ≤ 12 :=
  ix_all (P := fun y => 0 ≤ y ∧ y ≤ 12) (by simp; omega) (ix_6 (cup_bd _ (by decide)))
theorem tr_key {n sheet : Int} {often : List Int} {c : Bool} (hs : 0 ≤ sheet ∧ sheet < n) (ho : ∀ y ∈ often, 0 ≤ y ∧ y < n) (hl : 1 ≤ often.length) : 0 ≤ ix [sheet, ix often (sheet % (often.length : Int))] (if c = true then 1 else 0) ∧ ix [sheet, ix often (sheet % (often.length : Int))] (if c = true then 1 else 0) < n := by
  have h1 := ix_all (P := fun y => 0 ≤ y ∧ y < n) ho (i := sheet % (often.length : Int)) ⟨Int.emod_nonneg _ (by omega), Int.emod_lt_of_pos _ (by omega)⟩
  refine ix_all (P := fun y => 0 ≤ y ∧ y < n) (fun y hy => ?_) (ix_2 (by split <;> omega))
  rcases List.mem_cons.mp hy with e | e
  · rw [e]; exact hs
  · rw [List.mem_singleton.mp e]; exact h1
theorem TrLaw.ok {n most : Int} {tr : List (Tp Int)} (h : TrLaw n most tr) (hn : n ≤ 1000) (hm : most ≤ 100000) : TrOk tr := ⟨by have := h.len; omega, fun t ht s hs => by have := (h.row t ht).bd s hs; omega⟩
end GL

namespace GL
open PySem PySem.Spec PyProof.Rows L2
theorem pick_row {n : Int} {τ : Type} {f : τ → Int → Bool} {step : τ → Int → τ} {s : τ} : RowOk n ⟨(pickX f (fun x => x) step (rng 0 n) s).1⟩ := by
  obtain ⟨ys, h1, h2⟩ := pickX_sub f (fun x : Int => x) step (rng 0 n) s
  rw [h2]
  refine ⟨?_, fun x hx => ?_⟩
  · dsimp only
    rw [List.map_id']
    exact (rng_sorted 0 n).sublist h1
  · dsimp only at hx
    rw [List.map_id'] at hx
    exact mem_rng.mp (h1.subset hx)
theorem fold_fp {α : Type} (m : Int) : ∀ (xs : List α) (s : Pen), Anch.fp (xs.foldl (fun st (_ : α) => (penTake st m).2) s) = Anch.fp s
  | [], s => rfl
  | x :: xs, s => by rw [List.foldl_cons, fold_fp m xs, pen_fp]
def someM (z : Pen) (n most : Int) : Tp Int × Pen := (⟨(pickX (fun st (_ : Int) => decide ((penTake st n).1 < most)) (fun x => x) (fun st _ => (penTake st n).2) (rng 0 n) z).1⟩, (rng 0 n).foldl (fun st _ => (penTake st n).2) z)
theorem some_fp (z : Pen) (n most : Int) : Anch.fp (someM z n most).2 = Anch.fp z := fold_fp n _ z
theorem some_row (z : Pen) (n most : Int) : RowOk n (someM z n most).1 := pick_row
theorem all_snoc {δ : Type} {P : δ → Prop} {f : List δ} {x : δ} (h : ∀ t ∈ f, P t) (hx : P x) : ∀ t ∈ f ++ [x], P t := fun t ht => by
  rcases List.mem_append.mp ht with q | q
  · exact h t q
  · rw [List.mem_singleton.mp q]; exact hx
/-! ### what is needed first -/
abbrev Tch := List (Tp Int × Tp Int)
theorem RowOk.len9 {n : Int} {t : Tp Int} (h : RowOk n t) : t.l.length ≤ n.toNat := Dct.nodup_le n.toNat t.l (h.up.imp fun q => by omega) fun k hk => by have := h.bd k hk; omega
def TchOk (n : Int) (y : Tch) : Prop := ∀ t ∈ y, RowOk n t.1 ∧ RowOk n t.2
def wrD (d : Dct Bool) (ws : List Int) : Dct Bool := ws.foldl (fun f x => f.put x true) d
def ndNew (needed : List Int) (written : Dct Bool) (reads : List Int) : List Int := reads.filter fun x => !decide (x ∈ needed) && !(written.get? x).isSome
abbrev LlS := List Int × Dct Bool × Int × Option Int
def llStep (st : LlS) (it : Int × (Tp Int × Tp Int)) : LlS :=
  (st.1 ++ ndNew st.1 st.2.1 it.2.1.l, wrD st.2.1 it.2.2.l,
   if decide (st.2.2.1 < (((st.1 ++ ndNew st.1 st.2.1 it.2.1.l).length : Int) - it.1)) = true then ((st.1 ++ ndNew st.1 st.2.1 it.2.1.l).length : Int) - it.1 else st.2.2.1,
   if decide (st.2.2.1 < (((st.1 ++ ndNew st.1 st.2.1 it.2.1.l).length : Int) - it.1)) = true then some it.1 else st.2.2.2)
@[irreducible] def llM (n : Int) (y : Tch) : T3 (List Int) Int (Option Int) :=
  ⟨((enumI y).foldl llStep ([], Dct.emp, 0, none)).1 ++ (rng 0 n).filter (fun x => !decide (x ∈ ((enumI y).foldl llStep ([], Dct.emp, 0, none)).1)), ((enumI y).foldl llStep ([], Dct.emp, 0, none)).2.2.1, ((enumI y).foldl llStep ([], Dct.emp, 0, none)).2.2.2⟩
theorem wrD_ok {n : Int} (hn : n ≤ 1000) : ∀ {ws : List Int} {d : Dct Bool}, d.Ok 1000 → (∀ x ∈ ws, 0 ≤ x ∧ x < n) → (wrD d ws).Ok 1000
  | [], d, h, _ => h
  | x :: ws, d, h, hw => wrD_ok hn (ws := ws) (d := d.put x true) (h.put _ (by have := hw x List.mem_cons_self; omega)) fun y hy => hw y (List.mem_cons_of_mem _ hy)
theorem ll_ok {n : Int} (hn : n ≤ 1000) : ∀ (l : List (Int × (Tp Int × Tp Int))) (st : LlS), (∀ p ∈ l, RowOk n p.2.1 ∧ RowOk n p.2.2) → st.2.1.Ok 1000 → (l.foldl llStep st).2.1.Ok 1000 ∧ (l.foldl llStep st).1.length ≤ st.1.length + 1000 * l.length
  | [], st, _, h => ⟨h, Nat.le_refl _⟩
  | p :: l, st, hl, h => by
    rw [List.foldl_cons, List.length_cons]
    obtain ⟨h1, h2⟩ := hl p List.mem_cons_self
    have h3 : (llStep st p).2.1.Ok 1000 := wrD_ok hn h h2.bd
    obtain ⟨a1, a2⟩ := ll_ok hn l (llStep st p) (fun q hq => hl q (List.mem_cons_of_mem _ hq)) h3
    refine ⟨a1, ?_⟩
    have h4 : (llStep st p).1.length ≤ st.1.length + 1000 := by
      show (st.1 ++ ndNew st.1 st.2.1 p.2.1.l).length ≤ _
      rw [List.length_append]
      have := List.length_filter_le (fun x => !decide (x ∈ st.1) && !(st.2.1.get? x).isSome) p.2.1.l
      have := h1.len9
      unfold ndNew
      omega
    omega
theorem enum_tch {n : Int} {y : Tch} (h : TchOk n y) {pre : List (Int × (Tp Int × Tp Int))} (hp : ∀ p ∈ pre, p ∈ enumI y) : ∀ p ∈ pre, RowOk n p.2.1 ∧ RowOk n p.2.2 := fun p hq => h p.2 (List.mem_of_getElem? (mem_enumI.mp (hp p hq)).2)
def waStep (st : List Int × List Int) (t : Tp Int × Tp Int) : List Int × List Int := (st.1 ++ t.2.l, st.2 ++ t.1.l.filter fun x => !decide (x ∈ st.2) && !decide (x ∈ st.1))
@[irreducible] def wantM (y : Tch) : Int := ((y.foldl waStep ([], [])).2.length : Int)
theorem wa_len {n : Int} (hn : n ≤ 1000) : ∀ (l : Tch) (st : List Int × List Int), TchOk n l → (l.foldl waStep st).1.length ≤ st.1.length + 1000 * l.length ∧ (l.foldl waStep st).2.length ≤ st.2.length + 1000 * l.length
  | [], st, _ => ⟨Nat.le_refl _, Nat.le_refl _⟩
  | p :: l, st, hl => by
    rw [List.foldl_cons, List.length_cons]
    obtain ⟨h1, h2⟩ := hl p List.mem_cons_self
    obtain ⟨a1, a2⟩ := wa_len hn l (waStep st p) fun q hq => hl q (List.mem_cons_of_mem _ hq)
    have h3 := h1.len9
    have h4 := h2.len9
    have h5 : (waStep st p).1.length ≤ st.1.length + 1000 := by show (st.1 ++ p.2.l).length ≤ _; rw [List.length_append]; omega
    have h6 : (waStep st p).2.length ≤ st.2.length + 1000 := by
      show (st.2 ++ p.1.l.filter fun x => !decide (x ∈ st.2) && !decide (x ∈ st.1)).length ≤ _
      rw [List.length_append]
      have := List.length_filter_le (fun x => !decide (x ∈ st.2) && !decide (x ∈ st.1)) p.1.l
      omega
    omega
theorem mem_cut3 {δ : Type} {pre post l : List δ} {x : δ} (e : pre ++ x :: post = l) : ∀ p ∈ pre ++ [x], p ∈ l := fun p hp => by
  rw [← e]
  rcases List.mem_append.mp hp with q | q
  · exact List.mem_append_left _ q
  · rw [List.mem_singleton.mp q]; simp
/-! ### deeds played, by an order or as asked -/
def laM (reads : List Int) (written : Dct Bool) (came : Dct Int) (now : Int) : List Int := reads.filter fun p => !(written.get? p).isSome && decide (now ≤ (came.get? p).getD now)
def leM (order : List Int) (written : Dct Bool) (came : Dct Int) : List Int := order.filter fun p => !(written.get? p).isSome && !(came.get? p).isSome
def goX (reads order : List Int) (written : Dct Bool) (asks : Bool) (s : Dct Int × Int) : Int := ix [ix (leM order written s.1) 0, ix (laM reads written s.1 s.2) 0] (if asks = true then 1 else 0)
def goM (reads order : List Int) (written : Dct Bool) (asks : Bool) : Nat → Dct Int × Int → Dct Int × Int
  | 0, s => s
  | k + 1, s => if laM reads written s.1 s.2 = [] then s else goM reads order written asks k (s.1.put (goX reads order written asks s) s.2, s.2 + 1)
def CameOk (came : Dct Int) (now : Int) : Prop := (∀ x c, came.get? x = some c → c < now) ∧ came.Ok 1000
theorem la_none {reads : List Int} {written : Dct Bool} {came : Dct Int} {now x : Int} (h : CameOk came now) (hx : x ∈ laM reads written came now) : x ∈ reads ∧ (written.get? x).isSome = false ∧ (came.get? x).isSome = false := by
  obtain ⟨h1, h2⟩ := List.mem_filter.mp hx
  obtain ⟨h3, h4⟩ := Bool.and_eq_true_iff.mp h2
  refine ⟨h1, by simpa using h3, ?_⟩
  cases e : came.get? x with
  | none => rfl
  | some c =>
    rw [e] at h4
    have := h.1 x c e
    have := of_decide_eq_true h4
    dsimp only [Option.getD] at this
    omega
theorem le_of_la {reads order : List Int} {written : Dct Bool} {came : Dct Int} {now x : Int} (h : CameOk came now) (ho : ∀ x ∈ reads, x ∈ order) (hx : x ∈ laM reads written came now) : x ∈ leM order written came := by
  obtain ⟨h1, h2, h3⟩ := la_none h hx
  exact List.mem_filter.mpr ⟨ho x h1, by rw [h2, h3]; rfl⟩
theorem ix0_mem {xs : List Int} (h : xs ≠ []) : ix xs 0 ∈ xs := ix_mem (by omega) (by have := List.length_pos_iff.mpr h; omega)
theorem goX_mem {reads order : List Int} {written : Dct Bool} {asks : Bool} {came : Dct Int} {now : Int} (h : CameOk came now) (ho : ∀ x ∈ reads, x ∈ order) (hl : laM reads written came now ≠ []) : goX reads order written asks (came, now) ∈ leM order written came := by
  have h1 := le_of_la h ho (ix0_mem hl)
  unfold goX
  cases asks with
  | true => exact h1
  | false => exact ix0_mem (List.ne_nil_of_mem h1)
theorem le_less {order : List Int} {written : Dct Bool} {came : Dct Int} {x now : Int} (hx : x ∈ leM order written came) : (leM order written (came.put x now)).length < (leM order written came).length := by
  have e : leM order written (came.put x now) = (leM order written came).filter fun p => decide (p ≠ x) := by
    unfold leM
    rw [List.filter_filter]
    apply List.filter_congr
    intro p _
    rw [Dct.get?_put]
    by_cases q : p = x
    · rw [if_pos q, decide_eq_false (by simpa using q)]
      simp
    · rw [if_neg q, decide_eq_true (by simpa using q)]
      simp
  rw [e]
  have := List.length_filter_lt_length_iff_exists (p := fun p => decide (p ≠ x)) (l := leM order written came)
  exact this.mpr ⟨x, hx, by simp⟩
theorem CameOk.put {came : Dct Int} {now x : Int} (h : CameOk came now) (hx : 0 ≤ x ∧ x < 1000) : CameOk (came.put x now) (now + 1) := by
  refine ⟨fun y c e => ?_, h.2.put _ hx⟩
  rw [Dct.get?_put] at e
  by_cases q : y = x
  · rw [if_pos q] at e
    have : now = c := Option.some.inj e
    omega
  · rw [if_neg q] at e
    have := h.1 y c e
    omega
theorem goM_end {reads order : List Int} {written : Dct Bool} {asks : Bool} {f : Nat} {s : Dct Int × Int} (h : laM reads written s.1 s.2 = []) : goM reads order written asks f s = s := by
  cases f with
  | zero => rfl
  | succ f => rw [goM, if_pos h]
/-- within a deed -/
def GoI (reads order : List Int) (written : Dct Bool) (asks : Bool) (X : Dct Int × Int) (st : Dct Int × Int × List Int) : Prop :=
  st.2.2 = laM reads written st.1 st.2.1 ∧ CameOk st.1 st.2.1 ∧ ∃ f, goM reads order written asks f (st.1, st.2.1) = X ∧ (leM order written st.1).length < f
theorem GoI.next {reads order : List Int} {written : Dct Bool} {asks : Bool} {X : Dct Int × Int} {came : Dct Int} {now : Int} {lacks : List Int} (I : GoI reads order written asks X (came, now, lacks)) (ho : ∀ x ∈ reads, x ∈ order) (hb : ∀ x ∈ order, 0 ≤ x ∧ x < 1000) (hl : lacks ≠ []) :
    GoI reads order written asks X (came.put (goX reads order written asks (came, now)) now, now + 1, laM reads written (came.put (goX reads order written asks (came, now)) now) (now + 1)) ∧ (leM order written (came.put (goX reads order written asks (came, now)) now)).length < (leM order written came).length := by
  obtain ⟨h1, h2, f, h3, h4⟩ := I
  dsimp only at h1 h2 h3 h4
  rw [h1] at hl
  have hm := goX_mem (asks := asks) h2 ho hl
  have hd := le_less (now := now) hm
  have hx := hb _ (List.mem_filter.mp hm).1
  refine ⟨⟨rfl, h2.put hx, ?_⟩, hd⟩
  cases f with
  | zero => omega
  | succ f =>
    rw [goM, if_neg hl] at h3
    exact ⟨f, h3, by dsimp only; omega⟩
abbrev PlS := Dct Int × Dct Bool × List Int × Int
def plStep (order : List Int) (asks : Bool) (st : PlS) (t : Tp Int × Tp Int) : PlS :=
  ((cutL (leM order (wrD st.2.1 t.2.l) (goM t.1.l order st.2.1 asks (order.length + 1) (st.1, st.2.2.2)).1) none (some 1)).foldl (fun d p => d.put p (goM t.1.l order st.2.1 asks (order.length + 1) (st.1, st.2.2.2)).2) (goM t.1.l order st.2.1 asks (order.length + 1) (st.1, st.2.2.2)).1,
   wrD st.2.1 t.2.l, st.2.2.1 ++ [(goM t.1.l order st.2.1 asks (order.length + 1) (st.1, st.2.2.2)).2], (goM t.1.l order st.2.1 asks (order.length + 1) (st.1, st.2.2.2)).2 + 1)
@[irreducible] def playG (y : Tch) (order : List Int) (asks : Bool) : List Int × Int :=
  ((y.foldl (plStep order asks) (Dct.emp, Dct.emp, [], 0)).2.2.1, maxL ([0] ++ (cutL (y.foldl (plStep order asks) (Dct.emp, Dct.emp, [], 0)).2.2.1 none (some 1)).map fun _ => lastI (y.foldl (plStep order asks) (Dct.emp, Dct.emp, [], 0)).2.2.1 - ((y.foldl (plStep order asks) (Dct.emp, Dct.emp, [], 0)).2.2.1.length : Int) + 1))
theorem goM_ok {reads order : List Int} {written : Dct Bool} {asks : Bool} (ho : ∀ x ∈ reads, x ∈ order) (hb : ∀ x ∈ order, 0 ≤ x ∧ x < 1000) : ∀ (f : Nat) {s : Dct Int × Int}, CameOk s.1 s.2 → CameOk (goM reads order written asks f s).1 (goM reads order written asks f s).2
  | 0, s, h => h
  | f + 1, s, h => by
    rw [goM]
    split
    · exact h
    · rename_i hl
      exact goM_ok ho hb f (h.put (hb _ (List.mem_filter.mp (goX_mem h ho hl)).1))
theorem puts_ok {now : Int} : ∀ (l : List Int) {d : Dct Int}, (∀ x ∈ l, 0 ≤ x ∧ x < 1000) → (∀ x c, d.get? x = some c → c < now + 1) → d.Ok 1000 → CameOk (l.foldl (fun d p => d.put p now) d) (now + 1)
  | [], d, _, h, h2 => ⟨h, h2⟩
  | x :: l, d, hl, h, h2 => puts_ok l (d := d.put x now) (fun y hy => hl y (List.mem_cons_of_mem _ hy)) (fun y c e => by
      rw [Dct.get?_put] at e
      by_cases q : y = x
      · rw [if_pos q] at e
        have : now = c := Option.some.inj e
        omega
      · rw [if_neg q] at e
        exact h y c e) (h2.put _ (hl x List.mem_cons_self))
def PlOk (st : PlS) : Prop := CameOk st.1 st.2.2.2 ∧ st.2.1.Ok 1000
theorem pl_ok {n : Int} {order : List Int} {asks : Bool} (hn : n ≤ 1000) (hc : ∀ x, 0 ≤ x → x < n → x ∈ order) (hb : ∀ x ∈ order, 0 ≤ x ∧ x < 1000) : ∀ (l : Tch) (st : PlS), TchOk n l → PlOk st → PlOk (l.foldl (plStep order asks) st) ∧ (l.foldl (plStep order asks) st).2.2.1.length = st.2.2.1.length + l.length
  | [], st, _, h => ⟨h, rfl⟩
  | t :: l, st, hl, h => by
    rw [List.foldl_cons, List.length_cons]
    obtain ⟨h1, h2⟩ := hl t List.mem_cons_self
    have hor : ∀ x ∈ t.1.l, x ∈ order := fun x hx => hc x (h1.bd x hx).1 (h1.bd x hx).2
    have hg := goM_ok (written := st.2.1) (asks := asks) hor hb (order.length + 1) (s := (st.1, st.2.2.2)) h.1
    have h3 : PlOk (plStep order asks st t) := ⟨puts_ok _ (fun x hx => hb x (List.mem_filter.mp (List.mem_of_mem_drop (List.mem_of_mem_take hx))).1) (fun x c e => by have := hg.1 x c e; omega) hg.2, wrD_ok hn h.2 h2.bd⟩
    obtain ⟨a1, a2⟩ := pl_ok hn hc hb l (plStep order asks st t) (fun q hq => hl q (List.mem_cons_of_mem _ hq)) h3
    refine ⟨a1, ?_⟩
    rw [a2]
    show (st.2.2.1 ++ [_]).length + l.length = _
    rw [List.length_append, List.length_singleton]
    omega
end GL

namespace GL
open PySem PySem.Spec PyProof.Rows L2
/-! ### drawn orders -/
theorem erase_perm {α : Type} : ∀ (l : List α) (i : Nat) (h : i < l.length), (l[i] :: l.eraseIdx i).Perm l
  | [], _, h => absurd h (Nat.not_lt_zero _)
  | x :: l, 0, _ => List.Perm.refl _
  | x :: l, i + 1, h => by
    show (l[i]'(Nat.lt_of_succ_lt_succ h) :: x :: l.eraseIdx i).Perm (x :: l)
    exact (List.Perm.swap x _ _).trans ((erase_perm l i (Nat.lt_of_succ_lt_succ h)).cons x)
abbrev OrS := Pen × List Int
def orE (st : OrS) (_ : Int) : Int := ix st.2 (penTake st.1 (st.2.length : Int)).1
def orStep (st : OrS) (_ : Int) : OrS := ((penTake st.1 (st.2.length : Int)).2, st.2.eraseIdx (penTake st.1 (st.2.length : Int)).1.toNat)
theorem or_in {st : OrS} (h : st.2 ≠ []) : 0 ≤ (penTake st.1 (st.2.length : Int)).1 ∧ (penTake st.1 (st.2.length : Int)).1 < (st.2.length : Int) := pen_bd _ (by have := List.length_pos_iff.mpr h; omega)
theorem or_fold : ∀ (xs : List Int) (st : OrS), xs.length ≤ st.2.length → (xs.foldl orStep st).2.length = st.2.length - xs.length ∧ Anch.fp (xs.foldl orStep st).1 = Anch.fp st.1
  | [], st, _ => ⟨rfl, rfl⟩
  | x :: xs, st, h => by
    rw [List.length_cons] at h
    have hb := or_in (st := st) (fun e => by rw [e] at h; simp at h)
    have hl : (orStep st x).2.length = st.2.length - 1 := by
      show (st.2.eraseIdx _).length = _
      rw [List.length_eraseIdx, if_pos (by omega)]
    obtain ⟨h1, h2⟩ := or_fold xs (orStep st x) (by rw [hl]; omega)
    rw [List.foldl_cons, List.length_cons]
    refine ⟨by rw [h1, hl]; omega, h2.trans ?_⟩
    exact pen_fp _ _
theorem or_perm : ∀ (xs a : List Int) (st : OrS), xs.length ≤ st.2.length → ((xs.foldl (fun (a : List Int × OrS) x => (a.1 ++ [orE a.2 x], orStep a.2 x)) (a, st)).1 ++ (xs.foldl orStep st).2).Perm (a ++ st.2)
  | [], a, st, _ => List.Perm.refl _
  | x :: xs, a, st, h => by
    rw [List.length_cons] at h
    have hb := or_in (st := st) (fun e => by rw [e] at h; simp at h)
    have hl : (orStep st x).2.length = st.2.length - 1 := by
      show (st.2.eraseIdx _).length = _
      rw [List.length_eraseIdx, if_pos (by omega)]
    have ih := or_perm xs (a ++ [orE st x]) (orStep st x) (by rw [hl]; omega)
    rw [List.foldl_cons, List.foldl_cons]
    refine ih.trans ?_
    rw [List.append_assoc]
    refine List.Perm.append_left a ?_
    have hi : (penTake st.1 (st.2.length : Int)).1.toNat < st.2.length := by omega
    have e : orE st x = st.2[(penTake st.1 (st.2.length : Int)).1.toNat] := by
      have := ix_at (xs := st.2) hb.1 hb.2
      rw [List.getElem?_eq_getElem hi] at this
      exact (Option.some.inj this).symm
    rw [e]
    exact erase_perm st.2 _ hi
@[irreducible] def orderM (z : Pen) (n : Int) : List Int := (mapX orE orStep (rng 0 n) (z, rng 0 n)).1
theorem order_perm (z : Pen) (n : Int) : (orderM z n).Perm (rng 0 n) := by
  have h := or_perm (rng 0 n) [] (z, rng 0 n) (Nat.le_refl _)
  have h2 := (or_fold (rng 0 n) (z, rng 0 n) (Nat.le_refl _)).1
  have h3 : ((rng 0 n).foldl orStep (z, rng 0 n)).2 = [] := List.eq_nil_of_length_eq_zero (by rw [h2]; exact Nat.sub_self _)
  rw [h3, List.append_nil, List.nil_append] at h
  unfold orderM mapX
  exact h
/-! ### as the program goes -/
def nextM (order : List Int) (here : Dct Bool) : Option Int := order.find? fun x => !(here.get? x).isSome
def lackQ (reads : List Int) (here : Dct Bool) : List Int := reads.filter fun x => !(here.get? x).isSome
def HereR (here written : Dct Bool) (came : Dct Int) : Prop := ∀ x, (here.get? x).isSome = ((written.get? x).isSome || (came.get? x).isSome)
theorem lack_la {reads : List Int} {here written : Dct Bool} {came : Dct Int} {now : Int} (h : HereR here written came) (hc : CameOk came now) : lackQ reads here = laM reads written came now := by
  unfold lackQ laM
  apply List.filter_congr
  intro x _
  rw [h x]
  cases e : came.get? x with
  | none => simp
  | some c =>
    have := hc.1 x c e
    simp only [Option.isSome_some, Bool.or_true, Bool.not_true, Option.getD_some]
    rw [decide_eq_false (by omega), Bool.and_false]
theorem lackQ_le {order : List Int} {here written : Dct Bool} {came : Dct Int} (h : HereR here written came) : lackQ order here = leM order written came := by
  unfold lackQ leM
  apply List.filter_congr
  intro x _
  rw [h x, Bool.not_or]
theorem next_lack (order : List Int) (here : Dct Bool) : nextM order here = (lackQ order here).head? := by
  unfold nextM lackQ
  rw [List.head?_filter]
theorem HereR.put {here written : Dct Bool} {came : Dct Int} (h : HereR here written came) (x now : Int) : HereR (here.put x true) written (came.put x now) := fun y => by
  rw [Dct.get?_put, Dct.get?_put]
  by_cases e : y = x
  · rw [if_pos e, if_pos e]
    simp
  · rw [if_neg e, if_neg e]
    exact h y
theorem HereR.wr : ∀ (ws : List Int) {here written : Dct Bool} {came : Dct Int}, HereR here written came → HereR (wrD here ws) (wrD written ws) came
  | [], _, _, _, h => h
  | x :: ws, here, written, came, h => HereR.wr ws (here := here.put x true) (written := written.put x true) fun y => by
    rw [Dct.get?_put, Dct.get?_put]
    by_cases e : y = x
    · rw [if_pos e, if_pos e]
      simp
    · rw [if_neg e, if_neg e]
      exact h y
/-- within a deed, here for came -/
def GbI (reads order : List Int) (written : Dct Bool) (asks : Bool) (X : Dct Int × Int) (st : Dct Bool × Int) : Prop :=
  ∃ came, HereR st.1 written came ∧ st.1.Ok 1000 ∧ GoI reads order written asks X (came, st.2, laM reads written came st.2)
theorem head_ix {xs : List Int} (h : xs ≠ []) : xs.head? = some (ix xs 0) := by
  cases xs with
  | nil => exact absurd rfl h
  | cons x xs => rfl
/-- what comes next, as the program tells it -/
def comM (reads order : List Int) (here : Dct Bool) (asks : Bool) : Option Int := if asks = true then some (ix (lackQ reads here) 0) else nextM order here
theorem GbI.next {reads order : List Int} {written here : Dct Bool} {asks : Bool} {X : Dct Int × Int} {now : Int} (I : GbI reads order written asks X (here, now)) (ho : ∀ x ∈ reads, x ∈ order) (hb : ∀ x ∈ order, 0 ≤ x ∧ x < 1000) (hl : lackQ reads here ≠ []) :
    (comM reads order here asks).isSome = true ∧ (0 ≤ (comM reads order here asks).getD default ∧ (comM reads order here asks).getD default < 1000) ∧ GbI reads order written asks X (here.put ((comM reads order here asks).getD default) true, now + 1) ∧ (lackQ order (here.put ((comM reads order here asks).getD default) true)).length < (lackQ order here).length := by
  obtain ⟨came, h1, hok, h2⟩ := I
  dsimp only at h1 h2 hok
  have hcam := h2.2.1
  dsimp only at hcam
  have hla := lack_la (reads := reads) h1 hcam
  have hl' : laM reads written came now ≠ [] := by rw [← hla]; exact hl
  obtain ⟨n1, n2⟩ := h2.next ho hb hl'
  have hm := goX_mem (asks := asks) hcam ho hl'
  have e : comM reads order here asks = some (goX reads order written asks (came, now)) := by
    unfold comM goX
    rw [next_lack, hla, lackQ_le h1]
    cases asks with
    | true => rfl
    | false =>
      rw [if_neg (by decide)]
      exact head_ix (List.ne_nil_of_mem hm)
  have hx := hb _ (List.mem_filter.mp hm).1
  rw [e]
  have h4 := h1.put (goX reads order written asks (came, now)) now
  refine ⟨rfl, hx, ⟨_, h4, hok.put _ hx, n1⟩, ?_⟩
  show (lackQ order (here.put (goX reads order written asks (came, now)) true)).length < _
  rw [lackQ_le h4, lackQ_le h1]
  exact n2
theorem GbI.stop {reads order : List Int} {written here : Dct Bool} {asks : Bool} {X : Dct Int × Int} {now : Int} (I : GbI reads order written asks X (here, now)) (hl : lackQ reads here = []) : HereR here written X.1 ∧ X.2 = now ∧ CameOk X.1 now ∧ here.Ok 1000 := by
  obtain ⟨came, h1, hok, h2, h3, f, h4, h5⟩ := I
  dsimp only at h1 h3 h4 hok
  have hla := lack_la (reads := reads) h1 h3
  have e : X = (came, now) := by rw [← h4, goM_end (by rw [← hla]; exact hl)]
  rw [e]
  exact ⟨h1, rfl, h3, hok⟩
/-- behind so many deeds -/
def GnI (order : List Int) (asks : Bool) (pre : Tch) (st : Dct Bool × List Int × Int) : Prop :=
  ∃ came written, pre.foldl (plStep order asks) (Dct.emp, Dct.emp, [], 0) = (came, written, st.2.1, st.2.2) ∧ HereR st.1 written came ∧ st.1.Ok 1000 ∧ (pre.length : Int) ≤ st.2.2 ∧ st.2.1.length = pre.length ∧ (st.2.1 ≠ [] → lastI st.2.1 + 1 = st.2.2)
theorem GnI.start (order : List Int) (asks : Bool) : GnI order asks [] (Dct.emp, [], 0) := ⟨Dct.emp, Dct.emp, rfl, fun x => rfl, Dct.Ok.emp, Int.le_refl _, rfl, fun h => absurd rfl h⟩
theorem goM_ge {reads order : List Int} {written : Dct Bool} {asks : Bool} : ∀ (f : Nat) (s : Dct Int × Int), s.2 ≤ (goM reads order written asks f s).2
  | 0, s => Int.le_refl _
  | f + 1, s => by
    rw [goM]
    split
    · exact Int.le_refl _
    · have := goM_ge (reads := reads) (order := order) (written := written) (asks := asks) f (s.1.put (goX reads order written asks s) s.2, s.2 + 1)
      dsimp only at this
      exact Int.le_trans (by omega) this
theorem lastI_snoc (xs : List Int) (x : Int) : lastI (xs ++ [x]) = x := by
  unfold lastI ix
  simp
/-- one deed more: the sheet of the order that comes at its tick, or none -/
theorem GnI.step {order : List Int} {asks : Bool} {pre : Tch} {t : Tp Int × Tp Int} {came : Dct Int} {written here here2 : Dct Bool} {done : List Int} {now : Int}
    (hst : pre.foldl (plStep order asks) (Dct.emp, Dct.emp, [], 0) = (came, written, done, now)) (hlen : (pre.length : Int) ≤ now) (hdl : done.length = pre.length)
    (h : HereR here (wrD written t.2.l) (goM t.1.l order written asks (order.length + 1) (came, now)).1)
    (h2 : here2 = match nextM order here with | none => here | some x => here.put x true) (hok : here2.Ok 1000) :
    GnI order asks (pre ++ [t]) (here2, done ++ [(goM t.1.l order written asks (order.length + 1) (came, now)).2], (goM t.1.l order written asks (order.length + 1) (came, now)).2 + 1) := by
  have hge := goM_ge (reads := t.1.l) (order := order) (written := written) (asks := asks) (order.length + 1) (came, now)
  dsimp only at hge
  refine ⟨_, _, by rw [List.foldl_append, hst]; rfl, ?_, hok, ?_, ?_, ?_⟩
  · show HereR here2 (wrD written t.2.l) ((cutL (leM order (wrD written t.2.l) (goM t.1.l order written asks (order.length + 1) (came, now)).1) none (some 1)).foldl (fun d p => d.put p (goM t.1.l order written asks (order.length + 1) (came, now)).2) (goM t.1.l order written asks (order.length + 1) (came, now)).1)
    rw [h2, next_lack, lackQ_le h]
    cases leM order (wrD written t.2.l) (goM t.1.l order written asks (order.length + 1) (came, now)).1 with
    | nil => exact h
    | cons x xs => exact h.put x _
  · rw [List.length_append, List.length_singleton]
    dsimp only
    omega
  · dsimp only
    rw [List.length_append, List.length_append, hdl]
    rfl
  · intro _
    dsimp only
    rw [lastI_snoc]
theorem GnI.end {order : List Int} {asks : Bool} {y : Tch} {here : Dct Bool} {done : List Int} {now : Int} (I : GnI order asks y (here, done, now)) :
    playG y order asks = (done, if done = [] then 0 else lastI done - (done.length : Int) + 1) := by
  obtain ⟨came, written, h1, h2, _, h3, h4, h5⟩ := I
  dsimp only at h1 h3 h4 h5
  unfold playG
  rw [h1]
  dsimp only
  cases done with
  | nil => rfl
  | cons x xs =>
    have h6 := h5 (by simp)
    rw [if_neg (by simp)]
    have e : cutL (x :: xs) none (some 1) = [x] := rfl
    rw [e]
    congr 1
    show max (0 : Int) (lastI (x :: xs) - ((x :: xs).length : Int) + 1) = _
    omega
theorem find_no {here : Dct Bool} {pre : List Int} (h : ∀ y ∈ pre, (here.get? y).isSome = true) : pre.find? (fun x => !(here.get? x).isSome) = none := by
  rw [List.find?_eq_none]
  intro y hy
  rw [h y hy]
  decide
theorem find_at {here : Dct Bool} {pre post : List Int} {x : Int} (h : ∀ y ∈ pre, (here.get? y).isSome = true) (hx : (here.get? x).isSome = false) : (pre ++ x :: post).find? (fun x => !(here.get? x).isSome) = some x := by
  rw [List.find?_append, find_no h, Option.none_or, List.find?_cons, hx]
  rfl
theorem put_next {order : List Int} {here : Dct Bool} (h : (nextM order here).isSome = true) : here.put ((nextM order here).getD default) true = match nextM order here with | none => here | some x => here.put x true := by
  cases e : nextM order here with
  | none => rw [e] at h; cases h
  | some x => rfl
theorem no_next {order : List Int} {here : Dct Bool} (h : (nextM order here).isSome = false) : here = match nextM order here with | none => here | some x => here.put x true := by
  cases e : nextM order here with
  | none => rfl
  | some x => rw [e] at h; cases h
theorem next_bd {order : List Int} {here : Dct Bool} (hb : ∀ x ∈ order, 0 ≤ x ∧ x < 1000) (h : (nextM order here).isSome = true) : 0 ≤ (nextM order here).getD default ∧ (nextM order here).getD default < 1000 := by
  cases e : nextM order here with
  | none => rw [e] at h; cases h
  | some x => exact hb x (List.mem_of_find?_eq_some e)
theorem ix4 (P : Int → Prop) {a b c d x : Int} (h : 0 ≤ x ∧ x < 4) (ha : P a) (hb : P b) (hc : P c) (hd : P d) : P (ix [a, b, c, d] x) := by
  have e : x = 0 ∨ x = 1 ∨ x = 2 ∨ x = 3 := by omega
  rcases e with e | e | e | e <;> subst e
  · exact ha
  · exact hb
  · exact hc
  · exact hd
theorem draw_n (z : Pen) : 1 ≤ 1 + (penTake (penTake z 4).2 (ix [6, 6, 6, 12] (penTake z 4).1)).1 ∧ 1 + (penTake (penTake z 4).2 (ix [6, 6, 6, 12] (penTake z 4).1)).1 ≤ 12 := by
  have h := ix4 (fun v => 0 < v ∧ v ≤ 12) (a := 6) (b := 6) (c := 6) (d := 12) (pen_bd z (m := 4) (by decide)) (by decide) (by decide) (by decide) (by decide)
  have := pen_bd (penTake z 4).2 h.1
  omega
theorem play_len (order : List Int) (asks : Bool) : ∀ (l : Tch) (st : PlS), (l.foldl (plStep order asks) st).2.2.1.length = st.2.2.1.length + l.length
  | [], st => rfl
  | t :: l, st => by
    rw [List.foldl_cons, play_len order asks l]
    show (st.2.2.1 ++ [_]).length + l.length = _
    rw [List.length_append, List.length_singleton, List.length_cons]
    omega
theorem playG_len (y : Tch) (order : List Int) (asks : Bool) : (playG y order asks).1.length = y.length := by
  unfold playG
  dsimp only
  rw [play_len]
  exact Nat.zero_add _
theorem dle_ints (k : Nat) : ∀ xs : List Int, ∀ x ∈ xs.map ToD.dat, DLe k x := fun xs x hx => by
  obtain ⟨y, _, e⟩ := List.mem_map.mp hx
  rw [← e]
  exact .int
theorem dat_play {x : List Int × Int} (h : x.1.length ≤ 1000000) : DLe 3 (ToD.dat x) := by
  refine .tup (by simp) fun y hy => ?_
  rcases List.mem_cons.mp hy with e | e
  · rw [e]
    exact .lst (by rw [List.length_map]; exact h) (dle_ints 1 _)
  · rw [List.mem_singleton.mp e]
    exact .int
theorem tch_rep {n : Int} {y : Tch} {k : Nat} (h : TchOk n y) : TchOk n (List.replicate k y).flatten := fun t ht => by
  obtain ⟨l, h1, h2⟩ := List.mem_flatten.mp ht
  rw [List.eq_of_mem_replicate h1] at h2
  exact h t h2
theorem len_rep50 {y : Tch} : ((List.replicate (Int.toNat 50) y).flatten).length = 50 * y.length := by
  rw [List.length_flatten, List.map_replicate, List.sum_replicate_nat]
  rfl
end GL

namespace GL
open PySem PySem.Spec PyProof.Rows L2
/-! ### words of rows -/
def WRow.isSet : WRow → Bool
  | .set _ _ => true
  | _ => false
theorem isSet_w (r : WRow) : decide (r.word = Str.ofString "set") = r.isSet := by
  cases r with
  | set _ _ => exact (by decide +kernel : decide (Str.ofString "set" = Str.ofString "set") = true)
  | add _ _ => exact (by decide +kernel : decide (Str.ofString "add" = Str.ofString "set") = false)
  | jump _ _ => exact (by decide +kernel : decide (Str.ofString "jump" = Str.ofString "set") = false)
  | say _ => exact (by decide +kernel : decide (Str.ofString "say" = Str.ofString "set") = false)
  | take _ => exact (by decide +kernel : decide (Str.ofString "take" = Str.ofString "set") = false)
  | fin => exact (by decide +kernel : decide (Str.ofString "end" = Str.ofString "set") = false)
def WRow.isAdd : WRow → Bool
  | .add _ _ => true
  | _ => false
theorem isAdd_w (r : WRow) : decide (r.word = Str.ofString "add") = r.isAdd := by
  cases r with
  | set _ _ => exact (by decide +kernel : decide (Str.ofString "set" = Str.ofString "add") = false)
  | add _ _ => exact (by decide +kernel : decide (Str.ofString "add" = Str.ofString "add") = true)
  | jump _ _ => exact (by decide +kernel : decide (Str.ofString "jump" = Str.ofString "add") = false)
  | say _ => exact (by decide +kernel : decide (Str.ofString "say" = Str.ofString "add") = false)
  | take _ => exact (by decide +kernel : decide (Str.ofString "take" = Str.ofString "add") = false)
  | fin => exact (by decide +kernel : decide (Str.ofString "end" = Str.ofString "add") = false)
def WRow.isJump : WRow → Bool
  | .jump _ _ => true
  | _ => false
theorem isJump_w (r : WRow) : decide (r.word = Str.ofString "jump") = r.isJump := by
  cases r with
  | set _ _ => exact (by decide +kernel : decide (Str.ofString "set" = Str.ofString "jump") = false)
  | add _ _ => exact (by decide +kernel : decide (Str.ofString "add" = Str.ofString "jump") = false)
  | jump _ _ => exact (by decide +kernel : decide (Str.ofString "jump" = Str.ofString "jump") = true)
  | say _ => exact (by decide +kernel : decide (Str.ofString "say" = Str.ofString "jump") = false)
  | take _ => exact (by decide +kernel : decide (Str.ofString "take" = Str.ofString "jump") = false)
  | fin => exact (by decide +kernel : decide (Str.ofString "end" = Str.ofString "jump") = false)
def WRow.isSay : WRow → Bool
  | .say _ => true
  | _ => false
theorem isSay_w (r : WRow) : decide (r.word = Str.ofString "say") = r.isSay := by
  cases r with
  | set _ _ => exact (by decide +kernel : decide (Str.ofString "set" = Str.ofString "say") = false)
  | add _ _ => exact (by decide +kernel : decide (Str.ofString "add" = Str.ofString "say") = false)
  | jump _ _ => exact (by decide +kernel : decide (Str.ofString "jump" = Str.ofString "say") = false)
  | say _ => exact (by decide +kernel : decide (Str.ofString "say" = Str.ofString "say") = true)
  | take _ => exact (by decide +kernel : decide (Str.ofString "take" = Str.ofString "say") = false)
  | fin => exact (by decide +kernel : decide (Str.ofString "end" = Str.ofString "say") = false)
def WRow.isTake : WRow → Bool
  | .take _ => true
  | _ => false
theorem isTake_w (r : WRow) : decide (r.word = Str.ofString "take") = r.isTake := by
  cases r with
  | set _ _ => exact (by decide +kernel : decide (Str.ofString "set" = Str.ofString "take") = false)
  | add _ _ => exact (by decide +kernel : decide (Str.ofString "add" = Str.ofString "take") = false)
  | jump _ _ => exact (by decide +kernel : decide (Str.ofString "jump" = Str.ofString "take") = false)
  | say _ => exact (by decide +kernel : decide (Str.ofString "say" = Str.ofString "take") = false)
  | take _ => exact (by decide +kernel : decide (Str.ofString "take" = Str.ofString "take") = true)
  | fin => exact (by decide +kernel : decide (Str.ofString "end" = Str.ofString "take") = false)
def WRow.isFin : WRow → Bool
  | .fin => true
  | _ => false
theorem isFin_w (r : WRow) : decide (r.word = Str.ofString "end") = r.isFin := by
  cases r with
  | set _ _ => exact (by decide +kernel : decide (Str.ofString "set" = Str.ofString "end") = false)
  | add _ _ => exact (by decide +kernel : decide (Str.ofString "add" = Str.ofString "end") = false)
  | jump _ _ => exact (by decide +kernel : decide (Str.ofString "jump" = Str.ofString "end") = false)
  | say _ => exact (by decide +kernel : decide (Str.ofString "say" = Str.ofString "end") = false)
  | take _ => exact (by decide +kernel : decide (Str.ofString "take" = Str.ofString "end") = false)
  | fin => exact (by decide +kernel : decide (Str.ofString "end" = Str.ofString "end") = true)
theorem in_js (r : WRow) : decide (r.word ∈ [Str.ofString "jump", Str.ofString "say"]) = (r.isJump || r.isSay) := by
  rw [← isJump_w, ← isSay_w]
  simp [List.mem_cons]
theorem in_sat (r : WRow) : decide (r.word ∈ [Str.ofString "set", Str.ofString "add", Str.ofString "take"]) = (r.isSet || (r.isAdd || r.isTake)) := by
  rw [← isSet_w, ← isAdd_w, ← isTake_w]
  simp [List.mem_cons]
/-! ### programs and stands -/
abbrev Prog := T3 Int Int (Tp WRow)
abbrev Stand := Int × Tp Int
abbrev TickR := T5 Stand Str (Option Int) (Tp Int) (Tp Int)
def RowV (n w many : Int) : WRow → Prop
  | .set p v => (0 ≤ p ∧ p < n) ∧ 0 ≤ v ∧ v < w
  | .add p q => (0 ≤ p ∧ p < n) ∧ 0 ≤ q ∧ q < n
  | .jump p r => (0 ≤ p ∧ p < n) ∧ 0 ≤ r ∧ r < many
  | .say p => 0 ≤ p ∧ p < n
  | .take p => 0 ≤ p ∧ p < n
  | .fin => True
structure ProgOk (g : Prog) : Prop where
  n0 : 1 ≤ g.a
  n1 : g.a ≤ 12
  w0 : 2 ≤ g.b
  w1 : g.b ≤ 100
  m0 : 1 ≤ g.c.l.length
  m1 : g.c.l.length ≤ 20
  rows : ∀ r ∈ g.c.l, RowV g.a g.b g.c.l.length r
structure StandOk (g : Prog) (s : Stand) : Prop where
  a0 : 0 ≤ s.1
  a1 : s.1 ≤ g.c.l.length
  len : (s.2.l.length : Int) = g.a
  nums : ∀ x ∈ s.2.l, 0 ≤ x ∧ x < g.b
/-! ### a tick -/
def rowAtM (g : Prog) (s : Stand) : Option WRow := if (decide (s.1 = (g.c.l.length : Int)) || decide (ix g.c.l s.1 = WRow.fin)) = true then none else some (ix g.c.l s.1)
def readsM : WRow → Tp Int
  | .add p q => ⟨usrt [p, q]⟩
  | .jump p _ => ⟨[p]⟩
  | .say p => ⟨[p]⟩
  | _ => ⟨[]⟩
def writesM : WRow → Tp Int
  | .set p _ => ⟨[p]⟩
  | .add p _ => ⟨[p]⟩
  | .take p => ⟨[p]⟩
  | _ => ⟨[]⟩
def withM (sheets : Tp Int) (sheet number : Int) : Tp Int := ⟨cutL sheets.l none (some sheet) ++ [number] ++ cutL sheets.l (some (sheet + 1)) none⟩
def dSh (w : Int) (sheets : Tp Int) (letters : List Int) : WRow → Tp Int
  | .set p v => withM sheets p v
  | .add p q => withM sheets p ((ix sheets.l p + ix sheets.l q) % w)
  | .take p => withM sheets p (ix letters 0)
  | _ => sheets
def dWo : WRow → Str
  | .say _ => Str.ofString "said"
  | .take _ => Str.ofString "took"
  | _ => Str.ofString "did"
def dNu (sheets : Tp Int) (letters : List Int) : WRow → Option Int
  | .say p => some (ix sheets.l p)
  | .take _ => some (ix letters 0)
  | _ => none
def dGo (at_ : Int) (sheets : Tp Int) : WRow → Int
  | .jump p r => if decide (ix sheets.l p = 0) = true then r else at_ + 1
  | _ => at_ + 1
def doneM (g : Prog) (s : Stand) (r : WRow) (letters : List Int) : TickR := ⟨(dGo s.1 s.2 r, dSh g.b s.2 letters r), dWo r, dNu s.2 letters r, readsM r, writesM r⟩
@[irreducible] def tickM (g : Prog) (s : Stand) (letters : List Int) : TickR := match rowAtM g s with
  | none => ⟨s, Str.ofString "ended", none, ⟨[]⟩, ⟨[]⟩⟩
  | some r => if (r.isTake && decide (letters = [])) = true then ⟨s, Str.ofString "waits", none, ⟨[]⟩, ⟨[]⟩⟩ else doneM g s r letters
theorem with_set {sheets : Tp Int} {p v : Int} (h : 0 ≤ p ∧ p < sheets.l.length) : withM sheets p v = ⟨sheets.l.set p.toNat v⟩ := by
  obtain ⟨l⟩ := sheets
  unfold withM
  congr 1
  dsimp only at h ⊢
  have e : p = ((p.toNat : Nat) : Int) := by omega
  have e1 : p + 1 = ((p.toNat + 1 : Nat) : Int) := by omega
  unfold cutL
  rw [e1, e, HT.sIx_none, HT.sIx_none, HT.sIx_nat, HT.sIx_nat, Nat.min_eq_left (by omega), Nat.min_eq_left (by omega), List.drop_zero, Nat.sub_zero, Int.toNat_natCast,
    List.take_of_length_le (l := l.drop (p.toNat + 1)) (by rw [List.length_drop]; omega), List.set_eq_take_append_cons_drop, if_pos (by omega), List.append_assoc]
  rfl
theorem usrt_two (p q : Int) : usrt [p, q] = cutL [min p q, max p q] (some (if decide (p = q) = true then 1 else 0)) none := by
  symm
  by_cases e : p = q
  · subst e
    rw [decide_eq_true rfl, if_pos rfl]
    refine usrt_eq ?_ fun k => ?_
    · show List.Pairwise _ [max p p]
      exact List.pairwise_singleton _ _
    · show k ∈ [max p p] ↔ _
      rw [show max p p = p by omega]
      simp
  · rw [decide_eq_false e, if_neg (by decide)]
    refine usrt_eq ?_ fun k => ?_
    · show List.Pairwise _ [min p q, max p q]
      simp
      omega
    · show k ∈ [min p q, max p q] ↔ _
      simp
      omega
/-! ### drawn rows, programs, stands -/
@[irreducible] def rowM (z : Pen) (n w many : Int) (takes : Bool) : WRow × Pen :=
  let way := penTake z 14
  let p := penTake way.2 n
  if decide (way.1 < 3) = true then (.set p.1 (penTake p.2 w).1, (penTake p.2 w).2)
  else if decide (way.1 < 7) = true then (.add p.1 (penTake p.2 n).1, (penTake p.2 n).2)
  else if decide (way.1 < 9) = true then (.jump p.1 (penTake p.2 many).1, (penTake p.2 many).2)
  else if decide (way.1 < 11) = true then (.say p.1, p.2)
  else if (decide (way.1 < 13) && takes) = true then (.take p.1, p.2)
  else if decide (way.1 < 13) = true then (.add p.1 p.1, p.2)
  else (ix [.fin, .jump p.1 (penTake p.2 many).1, .say p.1] (penTake (penTake p.2 many).2 3).1, (penTake (penTake p.2 many).2 3).2)
theorem row_fp (z : Pen) (n w many : Int) (takes : Bool) : Anch.fp (rowM z n w many takes).2 = Anch.fp z := by
  unfold rowM
  dsimp only
  repeat' split
  all_goals simp only [pen_fp]
def RowT (takes : Bool) (r : WRow) : Prop := r.isTake = true → takes = true
theorem rowM_ok {z : Pen} {n w many : Int} {takes : Bool} (hn : 0 < n) (hw : 0 < w) (hm : 0 < many) : RowV n w many (rowM z n w many takes).1 ∧ RowT takes (rowM z n w many takes).1 := by
  unfold rowM
  dsimp only
  have h1 := pen_bd (penTake z 14).2 hn
  have h2 := pen_bd (penTake (penTake z 14).2 n).2 hw
  have h3 := pen_bd (penTake (penTake z 14).2 n).2 hn
  have h4 := pen_bd (penTake (penTake z 14).2 n).2 hm
  split
  · exact ⟨⟨h1, h2⟩, fun h => nomatch h⟩
  split
  · exact ⟨⟨h1, h3⟩, fun h => nomatch h⟩
  split
  · exact ⟨⟨h1, h4⟩, fun h => nomatch h⟩
  split
  · exact ⟨h1, fun h => nomatch h⟩
  split
  · rename_i h; exact ⟨h1, fun _ => (Bool.and_eq_true_iff.mp h).2⟩
  split
  · exact ⟨⟨h1, h1⟩, fun h => nomatch h⟩
  · have h5 := pen_bd (penTake (penTake (penTake z 14).2 n).2 many).2 (m := 3) (by decide)
    have e : (penTake (penTake (penTake (penTake z 14).2 n).2 many).2 3).1 = 0 ∨ (penTake (penTake (penTake (penTake z 14).2 n).2 many).2 3).1 = 1 ∨ (penTake (penTake (penTake (penTake z 14).2 n).2 many).2 3).1 = 2 := by omega
    rcases e with e | e | e <;> rw [e]
    · exact ⟨True.intro, fun h => nomatch h⟩
    · exact ⟨⟨h1, h4⟩, fun h => nomatch h⟩
    · exact ⟨h1, fun h => nomatch h⟩
def shE (w : Int) (st : Pen) (_ : Int) : Int := (penTake (penTake st 3).2 (ix [w, 1] (if decide ((penTake st 3).1 = 0) = true then 1 else 0))).1
def shStep (w : Int) (st : Pen) (_ : Int) : Pen := (penTake (penTake st 3).2 (ix [w, 1] (if decide ((penTake st 3).1 = 0) = true then 1 else 0))).2
@[irreducible] def sheetsM (z : Pen) (g : Prog) : Tp Int × Pen := (⟨(mapX (shE g.b) (shStep g.b) (rng 0 g.a) z).1⟩, (mapX (shE g.b) (shStep g.b) (rng 0 g.a) z).2)
theorem sh_pos {w : Int} {b : Bool} (hw : 0 < w) : 0 < ix [w, 1] (if b = true then 1 else 0) ∧ ix [w, 1] (if b = true then 1 else 0) ≤ max w 1 := by
  cases b
  · show 0 < w ∧ w ≤ max w 1
    omega
  · show (0 : Int) < 1 ∧ (1 : Int) ≤ max w 1
    omega
theorem sheets_fp (z : Pen) (g : Prog) : Anch.fp (sheetsM z g).2 = Anch.fp z := by
  unfold sheetsM
  exact mapX_inv (fun st => Anch.fp st = Anch.fp z) (fun s x h => by unfold shStep; rw [pen_fp, pen_fp]; exact h) (rng 0 g.a) z rfl
theorem sheets_ok {z : Pen} {g : Prog} (h0 : 0 ≤ g.a) (hw : 0 < g.b) : ((sheetsM z g).1.l.length : Int) = g.a ∧ ∀ x ∈ (sheetsM z g).1.l, 0 ≤ x ∧ x < g.b := by
  unfold sheetsM
  dsimp only
  refine ⟨by rw [mapX_len, len_rng]; omega, mapX_all (fun x => 0 ≤ x ∧ x < g.b) (fun s x => ?_) _ _⟩
  have h := sh_pos (b := decide ((penTake s 3).1 = 0)) hw
  have := pen_bd (penTake s 3).2 h.1
  unfold shE
  omega
theorem tick_row {g : Prog} {s : Stand} {r : WRow} (hg : ProgOk g) (hs : StandOk g s) (h : rowAtM g s = some r) : s.1 < g.c.l.length ∧ r = ix g.c.l s.1 ∧ r ≠ .fin ∧ RowV g.a g.b g.c.l.length r := by
  unfold rowAtM at h
  split at h
  · cases h
  · rename_i hc
    have e : ix g.c.l s.1 = r := Option.some.inj h
    simp at hc
    have h1 := hs.a0
    have h2 := hs.a1
    have hlt : s.1 < g.c.l.length := by omega
    refine ⟨hlt, e.symm, by rw [← e]; exact hc.2, ?_⟩
    rw [← e]
    exact hg.rows _ (ix_mem h1 hlt)
theorem nl1 {r : WRow} (h : r ≠ .fin) : 0 < r.nums.length := by
  cases r <;> first | exact absurd rfl h | simp [WRow.nums]
theorem nl2 {r : WRow} (h : r.isSet = true ∨ r.isAdd = true ∨ r.isJump = true) : 1 < r.nums.length := by
  cases r with
  | set p v => show 1 < 2; decide
  | add p v => show 1 < 2; decide
  | jump p v => show 1 < 2; decide
  | say p => rcases h with h | h | h <;> exact absurd h Bool.false_ne_true
  | take p => rcases h with h | h | h <;> exact absurd h Bool.false_ne_true
  | fin => rcases h with h | h | h <;> exact absurd h Bool.false_ne_true
theorem rv1 {n w m : Int} {r : WRow} (h : RowV n w m r) (hn : r ≠ .fin) : 0 ≤ r.a1 ∧ r.a1 < n := by
  cases r with
  | set p v => exact h.1
  | add p v => exact h.1
  | jump p v => exact h.1
  | say p => exact h
  | take p => exact h
  | fin => exact absurd rfl hn
theorem rv2 {n w m : Int} {r : WRow} (h : RowV n w m r) (hn : r.isAdd = true) : 0 ≤ r.a2 ∧ r.a2 < n := by
  cases r <;> first | exact h.2 | exact absurd hn Bool.false_ne_true
theorem tk_of {r : WRow} (hn : r ≠ .fin) (h0 : r.isSet = false) (h1 : r.isAdd = false) (h2 : r.isJump = false) (h3 : r.isSay = false) : r.isTake = true := by
  cases r <;> first | rfl | exact absurd rfl hn | exact absurd h0.symm Bool.false_ne_true | exact absurd h1.symm Bool.false_ne_true | exact absurd h2.symm Bool.false_ne_true | exact absurd h3.symm Bool.false_ne_true
theorem some_of {o : Option WRow} (h : o.isNone = false) : o.isSome = true := by
  cases o with
  | none => cases h
  | some r => rfl
theorem none_of {o : Option WRow} (h : o.isNone = true) : o = none := by
  cases o with
  | none => rfl
  | some r => cases h
theorem get_of {o : Option WRow} (h : o.isNone = false) : o = some (o.getD default) := by
  cases o with
  | none => cases h
  | some r => rfl
theorem tick_w {r : WRow} {letters : List Int} (h : (decide (r.word = Str.ofString "take") && decide ((letters.length : Int) = 0)) = true) : (r.isTake && decide (letters = [])) = true := by
  rw [isTake_w] at h
  obtain ⟨h1, h2⟩ := Bool.and_eq_true_iff.mp h
  have h3 := of_decide_eq_true h2
  rw [h1, decide_eq_true (List.eq_nil_of_length_eq_zero (by omega))]
  rfl
theorem tick_nw {r : WRow} {letters : List Int} (h : (decide (r.word = Str.ofString "take") && decide ((letters.length : Int) = 0)) = false) : ¬ (r.isTake && decide (letters = [])) = true := fun q => by
  rw [isTake_w] at h
  obtain ⟨h1, h2⟩ := Bool.and_eq_true_iff.mp q
  have h3 := of_decide_eq_true h2
  rw [h1, h3] at h
  exact absurd h.symm Bool.false_ne_true
theorem row_law {g : Prog} {s : Stand} {at_ : Int} {rows : Tp WRow} {r : WRow} (h1 : at_ = s.1) (h2 : rows = g.c) (h3 : r = ix rows.l at_) (hb : (decide ((rows.l.length : Int) ≤ at_) || decide ((ix rows.l at_).word = Str.ofString "end")) = false) : rowAtM g s = some r := by
  rw [isFin_w] at hb
  subst h1 h2 h3
  obtain ⟨b1, b2⟩ := Bool.or_eq_false_iff.mp hb
  have b3 := of_decide_eq_false b1
  unfold rowAtM
  rw [if_neg]
  intro q
  rcases Bool.or_eq_true_iff.mp q with q | q
  · have := of_decide_eq_true q; omega
  · rw [of_decide_eq_true q] at b2
    exact absurd b2.symm Bool.false_ne_true
theorem row_end {g : Prog} {s : Stand} {at_ : Int} {rows : Tp WRow} (hs : StandOk g s) (h1 : at_ = s.1) (h2 : rows = g.c) (hb : (decide ((rows.l.length : Int) ≤ at_) || decide ((ix rows.l at_).word = Str.ofString "end")) = true) : rowAtM g s = none := by
  rw [isFin_w] at hb
  subst h1 h2
  unfold rowAtM
  rw [if_pos]
  have := hs.a1
  rcases Bool.or_eq_true_iff.mp hb with q | q
  · have := of_decide_eq_true q
    rw [decide_eq_true (by omega)]
    rfl
  · have e : ix g.c.l s.1 = .fin := by
      cases e : ix g.c.l s.1 <;> rw [e] at q <;> first | rfl | exact absurd q Bool.false_ne_true
    rw [e]
    simp
theorem prog_ok {n w many : Int} {z : Pen} {takes : Bool} (hn : 1 ≤ n ∧ n ≤ 12) (hw : 2 ≤ w ∧ w ≤ 100) (hm : 1 ≤ many ∧ many ≤ 20) : ProgOk ⟨n, w, ⟨(mapX (fun st (_ : Int) => (rowM st n w many takes).1) (fun st _ => (rowM st n w many takes).2) (rng 0 many) z).1⟩⟩ ∧
    ∀ r ∈ (mapX (fun st (_ : Int) => (rowM st n w many takes).1) (fun st _ => (rowM st n w many takes).2) (rng 0 many) z).1, RowT takes r := by
  have hl : (mapX (fun st (_ : Int) => (rowM st n w many takes).1) (fun st _ => (rowM st n w many takes).2) (rng 0 many) z).1.length = many.toNat := by rw [mapX_len, len_rng]; omega
  have hr := mapX_all (e := fun st (_ : Int) => (rowM st n w many takes).1) (step := fun st _ => (rowM st n w many takes).2) (fun r => RowV n w many r ∧ RowT takes r) (fun st (_ : Int) => rowM_ok (z := st) (n := n) (w := w) (many := many) (takes := takes) (by omega) (by omega) (by omega)) (rng 0 many) z
  refine ⟨⟨hn.1, hn.2, hw.1, hw.2, by dsimp only; omega, by dsimp only; omega, fun r h => ?_⟩, fun r h => (hr r h).2⟩
  dsimp only at h ⊢
  rw [hl, show ((many.toNat : Nat) : Int) = many by omega]
  exact (hr r h).1
theorem prog_fp {n w many : Int} {z : Pen} {takes : Bool} : Anch.fp (mapX (fun st (_ : Int) => (rowM st n w many takes).1) (fun st _ => (rowM st n w many takes).2) (rng 0 many) z).2 = Anch.fp z :=
  mapX_inv (fun st => Anch.fp st = Anch.fp z) (fun s x h => by rw [row_fp]; exact h) (rng 0 many) z rfl
theorem pick2 (P : Int → Prop) {a b x : Int} (h : 0 ≤ x ∧ x < 2) (ha : P a) (hb : P b) : P (ix [a, b] x) := by
  have e : x = 0 ∨ x = 1 := by omega
  rcases e with e | e <;> subst e
  · exact ha
  · exact hb
theorem pick3 (P : Int → Prop) {a b c x : Int} (h : 0 ≤ x ∧ x < 3) (ha : P a) (hb : P b) (hc : P c) : P (ix [a, b, c] x) := by
  have e : x = 0 ∨ x = 1 ∨ x = 2 := by omega
  rcases e with e | e | e <;> subst e
  · exact ha
  · exact hb
  · exact hc
theorem pick5 (P : Int → Prop) {a b c d f x : Int} (h : 0 ≤ x ∧ x < 5) (ha : P a) (hb : P b) (hc : P c) (hd : P d) (hf : P f) : P (ix [a, b, c, d, f] x) := by
  have e : x = 0 ∨ x = 1 ∨ x = 2 ∨ x = 3 ∨ x = 4 := by omega
  rcases e with e | e | e | e | e <;> subst e
  · exact ha
  · exact hb
  · exact hc
  · exact hd
  · exact hf
theorem dr_n (z : Pen) : 1 ≤ 1 + (penTake (penTake z 2).2 (ix [3, 12] (penTake z 2).1)).1 ∧ 1 + (penTake (penTake z 2).2 (ix [3, 12] (penTake z 2).1)).1 ≤ 12 := by
  have h := pick2 (fun v => 0 < v ∧ v ≤ 12) (a := 3) (b := 12) (pen_bd z (m := 2) (by decide)) (by decide) (by decide)
  have := pen_bd (penTake z 2).2 h.1
  omega
theorem dr_m (z : Pen) : 1 ≤ 1 + (penTake (penTake z 3).2 (ix [6, 12, 20] (penTake z 3).1)).1 ∧ 1 + (penTake (penTake z 3).2 (ix [6, 12, 20] (penTake z 3).1)).1 ≤ 20 := by
  have h := pick3 (fun v => 0 < v ∧ v ≤ 20) (a := 6) (b := 12) (c := 20) (pen_bd z (m := 3) (by decide)) (by decide) (by decide) (by decide)
  have := pen_bd (penTake z 3).2 h.1
  omega
theorem mul01 {x : Int} {b : Bool} (h : 0 ≤ x) : 0 ≤ x * (if b = true then 1 else 0) ∧ x * (if b = true then 1 else 0) ≤ x := by
  cases b
  · rw [if_neg (by decide), Int.mul_zero]; omega
  · rw [if_pos rfl, Int.mul_one]; omega
section
variable {r : WRow} {w : Int} {sheets : Tp Int} {letters : List Int}
theorem dSh_set (h : r.isSet = true) (hb : 0 ≤ r.a1 ∧ r.a1 < (sheets.l.length : Int)) : (dSh w sheets letters r).l = sheets.l.set r.a1.toNat r.a2 := by
  cases r <;> first | exact absurd h Bool.false_ne_true | exact congrArg Tp.l (with_set hb)
theorem dSh_add (h : r.isAdd = true) (hb : 0 ≤ r.a1 ∧ r.a1 < (sheets.l.length : Int)) : (dSh w sheets letters r).l = sheets.l.set r.a1.toNat ((ix sheets.l r.a1 + ix sheets.l r.a2) % w) := by
  cases r <;> first | exact absurd h Bool.false_ne_true | exact congrArg Tp.l (with_set hb)
theorem dSh_take (h : r.isTake = true) (hb : 0 ≤ r.a1 ∧ r.a1 < (sheets.l.length : Int)) : (dSh w sheets letters r).l = sheets.l.set r.a1.toNat (ix letters 0) := by
  cases r <;> first | exact absurd h Bool.false_ne_true | exact congrArg Tp.l (with_set hb)
theorem reads_add (h : r.isAdd = true) : readsM r = ⟨cutL [min r.a1 r.a2, max r.a1 r.a2] (some (if decide (r.a1 = r.a2) = true then 1 else 0)) none⟩ := by
  cases r <;> first | exact absurd h Bool.false_ne_true | exact congrArg Tp.mk (usrt_two _ _)
theorem no_take (h : r.isTake = false) : ¬ (r.isTake && decide (letters = [])) = true := by rw [h]; simp
theorem isTake_of {f : WRow → Bool} (h : f r = true) (hf : ∀ p, f (.take p) = false) : r.isTake = false := by
  cases r <;> first | rfl | (rw [hf] at h; cases h)
end
theorem jump_of {r : WRow} (hn : r ≠ .fin) (h0 : r.isSet = false) (h1 : r.isAdd = false) (h2 : r.isTake = false) (h3 : r.isSay = false) : r.isJump = true := by
  cases r <;> first | rfl | exact absurd rfl hn | exact absurd h0.symm Bool.false_ne_true | exact absurd h1.symm Bool.false_ne_true | exact absurd h2.symm Bool.false_ne_true | exact absurd h3.symm Bool.false_ne_true
end GL

/-! Objects: fields by their places, a carried program as an owned thing. -/
namespace L2
open PySem PySem.Spec PyProof.Rows
section
variable {X : Cx}
/-- o.f = .., as a target -/
def gFld (K : PySem.W.Frag) (to : TE) (f : Str) : TG := fun v σ H Q => to σ H fun x H1 => ∃ a C dx fs, x = .ref a ∧ H1 a = some (.ins C dx fs) ∧ Cls K C ∧ NoAttr K C f ∧ fs.length < 1000 ∧ Q σ (upd H1 a (.ins C dx (putF f v fs)))
theorem pg_fld {o : Expr} {f : Str} {pos : Pos} {to : TE} (ho : PE X o to) : PG X (.Attribute o f pos) (gFld X.K to f) := by
  refine ⟨fun pins s σ H v u Q I r h => ?_⟩
  rw [arm_assign_Attribute]
  refine wpAny_bind (wpAny_holding (thn (ho.run pins s σ H _ I h) fun ov s1 ⟨x, H1, I1, r1, a, C, dx, fs, ex, ea, c, n, l, q⟩ => ?_))
  subst ex
  obtain rfl : ov = Value.ref a := r1
  refine wpAny_bind (wpAny_standAt (wpAny_bind (wpAny_holding (setattr_ok I1 ea c n l r fun s3 I3 => ?_))))
  exact wpAny_release ⟨σ, _, I3, q⟩
end
end L2
namespace GL
open PySem PySem.Spec PyProof.Rows L2
/-! ### fields by their places -/
def fIx (f : Str) : List Str → Nat
  | [] => 0
  | k :: ks => if k = f then 0 else fIx f ks + 1
theorem look_zip {f : Str} : ∀ {ks : List Str} {vs : List V} {n : Nat}, fIx f ks = n → n < ks.length → (ks.zip vs).lookup f = vs[n]?
  | [], _, _, _, h => absurd h (Nat.not_lt_zero _)
  | _ :: _, [], _, _, _ => rfl
  | k :: ks, v :: vs, n, e, h => by
    unfold fIx at e
    rw [List.zip_cons_cons]
    by_cases c : k = f
    · rw [if_pos c] at e
      subst e c
      simp [List.lookup]
    · rw [if_neg c] at e
      subst e
      have hb : (f == k) = false := beq_eq_false_iff_ne.mpr fun z => c z.symm
      simp only [List.lookup, hb]
      rw [look_zip (ks := ks) (vs := vs) rfl (by simpa using h)]
      rfl
theorem look_none {f : Str} : ∀ {ks : List Str} {vs : List V}, f ∉ ks → (ks.zip vs).lookup f = none
  | [], _, _ => rfl
  | _ :: _, [], _ => rfl
  | k :: ks, v :: vs, h => by
    have hb : (f == k) = false := beq_eq_false_iff_ne.mpr fun z => h (by rw [z]; exact List.mem_cons_self)
    rw [List.zip_cons_cons]
    simp only [List.lookup, hb]
    exact look_none fun z => h (List.mem_cons_of_mem _ z)
theorem put_zip {f : Str} {y : V} : ∀ {ks : List Str} {vs : List V} {n : Nat}, fIx f ks = n → n < ks.length → ks.length = vs.length → putF f y (ks.zip vs) = ks.zip (vs.set n y)
  | [], _, _, _, h, _ => absurd h (Nat.not_lt_zero _)
  | _ :: _, [], _, _, _, h => by cases h
  | k :: ks, v :: vs, n, e, h, hl => by
    unfold fIx at e
    rw [List.zip_cons_cons]
    unfold putF
    by_cases c : k = f
    · rw [if_pos c] at e ⊢
      subst e
      rfl
    · rw [if_neg c] at e ⊢
      subst e
      rw [put_zip (ks := ks) (vs := vs) rfl (by simpa using h) (by simpa using hl)]
      rfl
theorem put_snoc {f : Str} {y : V} : ∀ {ks : List Str} {vs : List V}, f ∉ ks → ks.length = vs.length → putF f y (ks.zip vs) = (ks ++ [f]).zip (vs ++ [y])
  | [], [], _, _ => rfl
  | [], _ :: _, _, h => by cases h
  | _ :: _, [], _, h => by cases h
  | k :: ks, v :: vs, h, hl => by
    rw [List.zip_cons_cons]
    unfold putF
    rw [if_neg fun z => h (by rw [z]; exact List.mem_cons_self), put_snoc (fun z => h (List.mem_cons_of_mem _ z)) (by simpa using hl)]
    rfl
def oV : Option Int → V
  | none => .non
  | some x => .int x
theorem oV_rep {K : Fg} {S : Hp} {v : V} {x : Option Int} (h : Py.rep K S v x) : v = oV x := by
  cases x with
  | none => exact h
  | some y => exact h
theorem rep_oV {K : Fg} {S : Hp} (x : Option Int) : Py.rep K S (oV x) x := by
  cases x with
  | none => exact rfl
  | some y => exact rfl
/-! ### a carried program -/
structure Car (C : Addr) where
  a : Addr
  w : Addr
  s : Addr
  f : Addr
  b : Addr
  g : Prog
  st : Stand
  houses : Int
  place : Int
  wait : List Int
  said : List Int
  done : Int
  goal : Option Int
  still : Bool
  fresh : Dct Bool
  made : Int
  absent : Dct Bool
def carK : List Str := ["program", "stand", "houses", "place", "waiting", "spoken", "done", "goal", "is_still", "fresh", "made", "absent"]
def carV {C : Addr} (z : Car C) (pv sv : V) : List V := [pv, sv, .int z.houses, .int z.place, .ref z.w, .ref z.s, .int z.done, oV z.goal, .bl z.still, .ref z.f, .int z.made, .ref z.b]
structure CarAt {C : Addr} (K : Fg) (S H : Hp) (z : Car C) (dx : Addr) (pv sv : V) (kf kb : List (Key × V)) : Prop where
  cl : Cls K C
  na : ∀ k ∈ carK, NoAttr K C k
  ob : H z.a = some (.ins C dx (carK.zip (carV z pv sv)))
  rg : Py.rep K S pv z.g
  rs : Py.rep K S sv z.st
  hw : H z.w = some (.lst (z.wait.map V.int))
  hs : H z.s = some (.lst (z.said.map V.int))
  hf : H z.f = some (.dK kf)
  rf : RepD K S kf z.fresh.l
  hb : H z.b = some (.dK kb)
  rb : RepD K S kb z.absent.l
  d1 : z.w ≠ z.s
  d2 : z.f ≠ z.b
def Car.fp {C : Addr} (z : Car C) : List Addr := [z.a, z.w, z.s, z.f, z.b]
section
variable {C : Addr} {K : Fg} {S S' H H' : Hp} {z z' : Car C} {dx : Addr} {pv sv : V} {kf kb : List (Key × V)}
theorem CarAt.mono (c : CarAt K S H z dx pv sv kf kb) (e : Same S S') (h : ∀ p ∈ z.fp, H' p = H p) : CarAt K S' H' z dx pv sv kf kb :=
  ⟨c.cl, c.na, by rw [h _ (by simp [Car.fp])]; exact c.ob, Py.mono e c.rg, Py.mono e c.rs, by rw [h _ (by simp [Car.fp])]; exact c.hw, by rw [h _ (by simp [Car.fp])]; exact c.hs, by rw [h _ (by simp [Car.fp])]; exact c.hf, c.rf.mono e, by rw [h _ (by simp [Car.fp])]; exact c.hb, c.rb.mono e, c.d1, c.d2⟩
instance : Own (Car C) := ⟨fun K S H v ps z => v = .ref z.a ∧ ps = z.fp ∧ ∃ dx pv sv kf kb, CarAt K S H z dx pv sv kf kb, fun {K S S' H H' v ps x} e a ⟨h1, h2, dx, pv, sv, kf, kb, c⟩ => ⟨h1, h2, dx, pv, sv, kf, kb, c.mono e (by rw [← h2]; exact a)⟩⟩
instance : Anch (Car C) := ⟨fun z => (.ref z.a, z.fp), fun ⟨h1, h2, _⟩ => by rw [h1, h2]⟩
theorem CarAt.ne_w (c : CarAt K S H z dx pv sv kf kb) : z.w ≠ z.a := fun e => by have h := c.hw; rw [e, c.ob] at h; cases h
theorem CarAt.ne_s (c : CarAt K S H z dx pv sv kf kb) : z.s ≠ z.a := fun e => by have h := c.hs; rw [e, c.ob] at h; cases h
theorem CarAt.ne_f (c : CarAt K S H z dx pv sv kf kb) : z.f ≠ z.a := fun e => by have h := c.hf; rw [e, c.ob] at h; cases h
theorem CarAt.ne_b (c : CarAt K S H z dx pv sv kf kb) : z.b ≠ z.a := fun e => by have h := c.hb; rw [e, c.ob] at h; cases h
theorem CarAt.ne_wf (c : CarAt K S H z dx pv sv kf kb) : z.w ≠ z.f := fun e => by have h := c.hw; rw [e, c.hf] at h; cases h
theorem CarAt.ne_wb (c : CarAt K S H z dx pv sv kf kb) : z.w ≠ z.b := fun e => by have h := c.hw; rw [e, c.hb] at h; cases h
theorem CarAt.ne_sf (c : CarAt K S H z dx pv sv kf kb) : z.s ≠ z.f := fun e => by have h := c.hs; rw [e, c.hf] at h; cases h
theorem CarAt.ne_sb (c : CarAt K S H z dx pv sv kf kb) : z.s ≠ z.b := fun e => by have h := c.hs; rw [e, c.hb] at h; cases h
/-- a plain field set -/
theorem CarAt.set {pv' sv' : V} {f : Str} {y : V} {n : Nat} (c : CarAt K S H z dx pv sv kf kb) (hn : fIx f carK = n) (hl : n < 12) (e : (carV z pv sv).set n y = carV z' pv' sv') (ha : z'.a = z.a) (h1 : z'.w = z.w) (h2 : z'.s = z.s) (h3 : z'.f = z.f) (h4 : z'.b = z.b)
    (w1 : z'.wait = z.wait) (w2 : z'.said = z.said) (w3 : z'.fresh = z.fresh) (w4 : z'.absent = z.absent) (rg : Py.rep K S pv' z'.g) (rs : Py.rep K S sv' z'.st) : CarAt K S (upd H z.a (.ins C dx (putF f y (carK.zip (carV z pv sv))))) z' dx pv' sv' kf kb := by
  refine ⟨c.cl, c.na, ?_, rg, rs, ?_, ?_, ?_, by rw [w3]; exact c.rf, ?_, by rw [w4]; exact c.rb, by rw [h1, h2]; exact c.d1, by rw [h3, h4]; exact c.d2⟩
  · rw [ha, upd_same, put_zip hn hl rfl, e]
  · rw [h1, w1, upd_ne c.ne_w]; exact c.hw
  · rw [h2, w2, upd_ne c.ne_s]; exact c.hs
  · rw [h3, upd_ne c.ne_f]; exact c.hf
  · rw [h4, upd_ne c.ne_b]; exact c.hb
end
section
variable {C : Addr} {K : Fg} {B S0 S1 S S' D : Hp} {σ : L2.St} {H H' : Hp} {F : Nat → List Addr} {G G' G1 G2 G3 G4 G5 : List Sl} {ta tb tc td te : TE} {i j l : Nat} {t u : TS} {E : Ends} {z : Car C}
theorem car_at (k : Kn K B S0 S σ H F G) (hi : G[i]? = some (.ow z)) : σ[i]? = some (some (.ref z.a)) ∧ F i = z.fp ∧ ∃ dx pv sv kf kb, CarAt K S H z dx pv sv kf kb := by
  obtain ⟨v, h1, h2, h3, h4⟩ := k.ow hi
  exact ⟨by rw [h1, h2], h3, h4⟩
theorem ev_fld {α : Type} [Py α] {x : α} {f : Str} (n : Nat) (hn : fIx f carK = n) (hl : n < 12) (hi : G[i]? = some (.ow z)) (h : ∀ {K : Fg} {S : Hp} {pv sv : V}, Py.rep K S pv z.g → Py.rep K S sv z.st → ∃ v, (carV z pv sv)[n]? = some v ∧ Py.rep K S v x) : EvX K (tFld K (tVar i) f) G x G := fun B S0 S σ H F k Q q => by
  obtain ⟨h1, h2, dx, pv, sv, kf, kb, c⟩ := car_at k hi
  obtain ⟨v, h3, h4⟩ := h c.rg c.rs
  have hf : f ∈ carK := by
    have : ∀ ks : List Str, fIx f ks < ks.length → f ∈ ks := fun ks => by
      induction ks with
      | nil => intro h; exact absurd h (Nat.not_lt_zero _)
      | cons k ks ih =>
        intro h
        unfold fIx at h
        by_cases c : k = f
        · rw [c]; exact List.mem_cons_self
        · rw [if_neg c] at h
          exact List.mem_cons_of_mem _ (ih (by simpa using h))
    exact this carK (by rw [hn]; exact hl)
  exact ⟨.ref z.a, h1, z.a, C, dx, _, v, rfl, c.ob, c.cl, c.na f hf, by rw [look_zip hn hl]; exact h3, q v S H (Same.refl _) k h4⟩
theorem ev_program (hi : G[i]? = some (.ow z)) : EvX K (tFld K (tVar i) "program") G z.g G := ev_fld 0 (by decide +kernel) (by decide) hi fun a b => ⟨_, rfl, a⟩
theorem ev_stand (hi : G[i]? = some (.ow z)) : EvX K (tFld K (tVar i) "stand") G z.st G := ev_fld 1 (by decide +kernel) (by decide) hi fun a b => ⟨_, rfl, b⟩
theorem ev_houses (hi : G[i]? = some (.ow z)) : EvX K (tFld K (tVar i) "houses") G z.houses G := ev_fld 2 (by decide +kernel) (by decide) hi fun a b => ⟨_, rfl, rfl⟩
theorem ev_place (hi : G[i]? = some (.ow z)) : EvX K (tFld K (tVar i) "place") G z.place G := ev_fld 3 (by decide +kernel) (by decide) hi fun a b => ⟨_, rfl, rfl⟩
theorem ev_done (hi : G[i]? = some (.ow z)) : EvX K (tFld K (tVar i) "done") G z.done G := ev_fld 6 (by decide +kernel) (by decide) hi fun a b => ⟨_, rfl, rfl⟩
theorem ev_goal (hi : G[i]? = some (.ow z)) : EvX K (tFld K (tVar i) "goal") G z.goal G := ev_fld 7 (by decide +kernel) (by decide) hi fun a b => ⟨_, rfl, rep_oV _⟩
theorem ev_is_still (hi : G[i]? = some (.ow z)) : EvX K (tFld K (tVar i) "is_still") G z.still G := ev_fld 8 (by decide +kernel) (by decide) hi fun a b => ⟨_, rfl, rfl⟩
theorem ev_made (hi : G[i]? = some (.ow z)) : EvX K (tFld K (tVar i) "made") G z.made G := ev_fld 10 (by decide +kernel) (by decide) hi fun a b => ⟨_, rfl, rfl⟩
end
end GL

/-! Refusals: their classes, isinstance of a kept one, defs that raise, calls of them, try. -/
namespace GL
open PySem PySem.Spec PyProof.Rows L2
inductive XC
  | tooMany | noHouse | noLetter | noStep | noRow | noText | base
  deriving DecidableEq
def xY (a0 a1 a2 a3 a4 a5 a6 : Addr) : XC → Addr
  | .tooMany => a0
  | .noHouse => a1
  | .noLetter => a2
  | .noStep => a3
  | .noRow => a4
  | .noText => a5
  | .base => a6
/-- a class of refusals that is raised by a text -/
structure XCls (K : Fg) (mg : Str → Option Value) (nm : Str) (C : Addr) : Prop where
  g : mg nm = some (.ref C)
  x : PySem.W.excIn K C [.type "ValueError", .type "Exception", .type "BaseException", .type "object"] "ValueError.__new__" = true
  kp : PySem.W.keepIn K (.ref C) = true
  ty : PySem.W.typeIn K (.ref C) = some (.type "type")
  hg : PySem.W.findIn K (.ref C) "__getattribute__" = some (some (.builtin "BaseException.__getattribute__"))
  hk : PySem.W.findIn K (.ref C) "__getattr__" = some none
  hs : PySem.W.subIn K (.ref C) (.type "BaseException") = some true
  hd : PySem.W.hasDictIn K C = true
  ha : PySem.W.findIn K (.ref C) "__class__" = some (some (.builtin "object.__class__"))
  hn : PySem.W.specialIn K (.builtin "object.__class__") "__get__" = some (some (.builtin "getset_descriptor.__get__"))
  ht : PySem.W.takesIn K (.builtin "object.__class__") = some true
  hm : PySem.W.mroIn K C (.type "object") = some true
/-- .. that is asked for -/
structure XTst (K : Fg) (mg : Str → Option Value) (nm : Str) (C : Addr) : Prop where
  g : mg nm = some (.ref C)
  ty : PySem.W.typeIn K (.ref C) = some (.type "type")
  hs : PySem.W.subIn K (.ref C) (.type "BaseException") = some true
  hd : PySem.W.hasDictIn K C = true
  self : PySem.W.subIn K (.ref C) (.ref C) = some true
theorem XCls.c {K : Fg} {mg : Str → Option Value} {nm : Str} {C : Addr} (t : XCls K mg nm C) : ExcC K C := ⟨t.hg, t.hk, t.hs, t.hd, t.ha, t.hn, t.ht, t.hm⟩
theorem XTst.met {K : Fg} {mg : Str → Option Value} {nm : Str} {C : Addr} {cls : Value} (t : XTst K mg nm C) (h : PySem.W.subIn K cls (.ref C) = some true) : PySem.W.exmOne K cls (.ref C) = some true := PySem.W.exm_ref t.hs t.hd t.ty h
theorem XTst.names {X : Cx} {nm : Str} {C : Addr} (t : XTst X.K X.mg nm C) (hg : Gl X nm) (hd : (nm == ("__debug__" : Str)) = false := by decide) : Names X nm (.ref C) := ⟨hg, hd, .inl t.g⟩
theorem cls_some {K : Fg} {C : Addr} (h : PySem.W.hasDictIn K C = true) : (PySem.W.clsIn K C).isSome = true := by
  unfold PySem.W.hasDictIn at h
  cases e : PySem.W.clsIn K C with
  | none => rw [e] at h; cases h
  | some _ => rfl
theorem XTst.kit {K : Fg} {mg : Str → Option Value} {nm : Str} {C : Addr} {t : Value} {b : Bool} (x : XTst K mg nm C) (h : PySem.W.subIn K t (.ref C) = some b) : PySem.W.kitOne K t (.ref C) = some b := by
  unfold PySem.W.kitOne
  by_cases e : (t == Value.ref C) = true
  · rw [if_pos e]
    rw [eq_of_beq e, x.self] at h
    exact h
  · rw [if_neg e]
    unfold PySem.W.kitCls
    dsimp only
    rw [if_pos (by rw [cls_some x.hd, x.ty]; rfl)]
    exact h
theorem kit_bi {K : Fg} {C : Addr} {T : String} {b : Bool} (hT : PySem.W.kitMeta T = true) (h : PySem.W.subIn K (.ref C) (.type T) = some b) : PySem.W.kitOne K (.ref C) (.type T) = some b := by
  unfold PySem.W.kitOne
  rw [if_neg (show ¬ ((Value.ref C == Value.type T) = true) by simp)]
  unfold PySem.W.kitCls
  dsimp only
  rw [if_pos hT]
  exact h
/-- a kept refusal -/
structure Exc (Y : XC → Addr) where
  x : XC
section
variable {Y : XC → Addr}
instance : Py (Exc Y) := ⟨fun K S v e => ∃ p, v = .ref p ∧ S p = some (excH (.ref (Y e.x)) none p), fun s ⟨p, h1, h2⟩ => ⟨p, h1, s _ _ h2⟩⟩
theorem nn_exc : ∀ (K : Fg) (S : Hp) (v : V) (y : Exc Y), Py.rep K S v y → v ≠ .non := fun K S v y ⟨p, e, _⟩ z => by rw [e] at z; cases z
end
/-! ### isinstance -/
def rIsX (K : Fg) : List V → Hp → VK → Prop := fun xs H Q => ∃ (a D : Addr) (c : V) (cv : Value) (b : Bool), xs = [.ref a, c] ∧ ExcC K D ∧ H a = some (excH (.ref D) none a) ∧ (∀ u, RelV c u → u = cv) ∧ PySem.W.kitOne K (.ref D) cv = some b ∧ Q (.bl b) H
def rIsXs (K : Fg) : List V → Hp → VK → Prop := fun xs H Q => ∃ (a D tp : Addr) (cs : List Addr) (b : Bool), xs = [.ref a, .ref tp] ∧ ExcC K D ∧ H a = some (excH (.ref D) none a) ∧ H tp = some (.tup (cs.map V.ref)) ∧ PySem.W.kitAny K (.ref D) (cs.map Value.ref) = some b ∧ Q (.bl b) H
theorem exc_inst {P : Program} {w : World} {H : Hp} {h : Heap} {a D : Addr} (hok : HOk P w H h) (e : H a = some (excH (.ref D) none a)) : ∃ ob, PySem.W.InstAt h a ob D none := by
  obtain ⟨⟨ob, fs, e1, e2, e3⟩, _⟩ := hok a _ e
  obtain ⟨oc, od, oda, osl⟩ := ob
  obtain ⟨z1, z2⟩ := e2
  dsimp only at z1 z2 e3
  subst z1 z2 e3
  exact ⟨_, e1, rfl, rfl, trivial⟩
theorem vals_refs : ∀ {cs : List Addr} {us : List Value}, Vals (cs.map V.ref) us → us = cs.map Value.ref
  | [], _, h => by cases h; rfl
  | c :: cs, _, h => by
    cases h with
    | cons r t =>
      cases r
      rw [vals_refs t]
      rfl
theorem call_isX {X : Cx} : CallR X (.builtin "isinstance") (rIsX X.K) := fun pins s σ H xs us Q I r h => by
  obtain ⟨a, D, c, cv, b, rfl, C, ha, hc, hk, q⟩ := h
  cases r with
  | cons r1 r =>
    cases r with
    | cons r2 r =>
      cases r
      cases r1
      rw [hc _ r2]
      obtain ⟨ob, J⟩ := exc_inst I.hok ha
      exact PySem.W.kia_one (PySem.W.handS_kitx_exc (ox := ob) C.hg C.hk C.hs C.hd C.ha C.hn C.ht C.hm) I.kIn J hk (fun z => nomatch z) fun tk => ⟨.bl b, H, I.tok tk, rfl, q⟩
theorem call_isXs {X : Cx} : CallR X (.builtin "isinstance") (rIsXs X.K) := fun pins s σ H xs us Q I r h => by
  obtain ⟨a, D, tp, cs, b, rfl, C, ha, ht, hk, q⟩ := h
  cases r with
  | cons r1 r =>
    cases r with
    | cons r2 r =>
      cases r
      cases r1
      cases r2
      obtain ⟨ob, J⟩ := exc_inst I.hok ha
      obtain ⟨_, its, rv, o, h1, h2, n, h3⟩ := (show ObjOk X.prog X.w H s.heap tp (.tup (cs.map V.ref)) from I.hok tp _ ht)
      have e := vals_refs rv
      subst e
      obtain ⟨oc, od, dt, sl⟩ := o
      simp only at h2 h3
      subst h2 h3
      exact PySem.W.kia_tup (PySem.W.handS_kitx_exc (ox := ob) C.hg C.hk C.hs C.hd C.ha C.hn C.ht C.hm) I.kIn J h1 hk (fun z => nomatch z) fun tk => ⟨.bl b, H, I.tok tk, rfl, q⟩
section
variable {K : Fg} {B S0 S1 S S' : Hp} {σ : L2.St} {H H' : Hp} {F : Nat → List Addr} {G G' G1 G2 : List Sl} {ta te : TE} {t : TA} {u : TS} {D : Ends} {i j : Nat} {Y : XC → Addr} {α β : Type} {mg : Str → Option Value} {nm : Str}
theorem ev_isX {e : XC} {C : Addr} {b : Bool} (x : XCls K mg nm (Y e)) (ha : EvX K ta G (Exc.mk (Y := Y) e) G1) (hk : PySem.W.kitOne K (.ref (Y e)) (.ref C) = some b) : EvX K (tCB (rIsX K) (tCons ta (tCons (tC (.ref C)) tNil))) G b G1 := fun B S0 S σ H F k Q q =>
  ha B S0 S σ H F k _ fun v S1 H1 e1 k1 r1 => by
    obtain ⟨p, ep, hp⟩ := r1
    exact ⟨p, Y e, .ref C, .ref C, b, by rw [ep], x.c, k1.sub _ _ hp, fun u r => r, hk, q _ S1 H1 e1 k1 rfl⟩
theorem ev_isXb {e : XC} {T : String} {b : Bool} (x : XCls K mg nm (Y e)) (ha : EvX K ta G (Exc.mk (Y := Y) e) G1) (hk : PySem.W.kitOne K (.ref (Y e)) (.type T) = some b) : EvX K (tCB (rIsX K) (tCons ta (tCons (tC (.ty T)) tNil))) G b G1 := fun B S0 S σ H F k Q q =>
  ha B S0 S σ H F k _ fun v S1 H1 e1 k1 r1 => by
    obtain ⟨p, ep, hp⟩ := r1
    exact ⟨p, Y e, .ty T, .type T, b, by rw [ep], x.c, k1.sub _ _ hp, fun u r => r, hk, q _ S1 H1 e1 k1 rfl⟩
theorem ev_isXs {e : XC} {cs : List Addr} {b : Bool} {tc : TA} (x : XCls K mg nm (Y e)) (ha : EvX K ta G (Exc.mk (Y := Y) e) G1) (hc : ∀ (σ : L2.St) (H : Hp) (Q : List V → Hp → Prop), Q (cs.map V.ref) H → tc σ H Q) (hl : cs.length ≤ 100) (hk : PySem.W.kitAny K (.ref (Y e)) (cs.map Value.ref) = some b) :
    EvX K (tCB (rIsXs K) (tCons ta (tCons (tTup tc) tNil))) G b G1 := fun B S0 S σ H F k Q q =>
  ha B S0 S σ H F k _ fun v S1 H1 e1 k1 r1 => hc _ _ _ ⟨by rw [List.length_map]; exact le_line (by omega), fun tp ht => by
    obtain ⟨p, ep, hp⟩ := r1
    have e2 := same_new (o := .tup (cs.map V.ref)) (k1.free ht).1
    refine ⟨p, Y e, tp, cs, b, by rw [ep], x.c, ?_, upd_same, hk, q _ _ _ (e1.trans e2) (k1.new ht) rfl⟩
    rw [upd_ne (ne_of_none (k1.sub _ _ hp) ht)]
    exact k1.sub _ _ hp⟩
/-! ### defs that raise -/
/-- from packed arguments a value, or a refusal; nothing else changes -/
def spX [PyA α] [Py β] (K : Fg) (Y : XC → Addr) (f : α → XC ⊕ β) (pre : α → Prop) : Sp := fun vs H Q E => ∃ (S : Hp) (a : α), Same S H ∧ PyA.rep K S vs a ∧ pre a ∧
  (∀ y, f a = .inr y → ∀ v S' H', Grow S H S' H' → Py.rep K S' v y → Q v H') ∧ ∀ e, f a = .inl e → ∀ S' H', Grow S H S' H' → E (.ref (Y e)) none H'
variable {W : WX}
theorem q_setX [PyA α] [Py β] {f : α → XC ⊕ β} {pre : α → Prop} {a : α} (i : Nat) (ha : EvA K t G a G1) (hp : pre a) (hi : G1[i]?.isSome = true) (ok : ∀ y, f a = .inr y → At K B S0 (u D) (G1.set i (.im y))) (er : ∀ e, f a = .inl e → At K B S0 (W (.ref (Y e)) none) G1) :
    At K B S0 (tSeq (tAsg (tCallS (spX K Y f pre) (WE W) t) (gName i)) u D) G := fun S σ H F kn =>
  ha B S0 S σ H F kn _ fun vs S1 H1 e1 k1 r1 => ⟨S1, a, k1.sub, r1, hp, fun y ey v S2 H2 g r2 => ok y ey S2 _ H2 _ ((k1.grow g).set r2 hi), fun e ee S2 H2 g => er e ee S2 σ H2 F (k1.grow g)⟩
/-- the call's value isn't kept -/
theorem q_dropX [PyA α] [Py β] {f : α → XC ⊕ β} {pre : α → Prop} {a : α} (ha : EvA K t G a G1) (hp : pre a) (ok : ∀ y, f a = .inr y → At K B S0 (u D) G1) (er : ∀ e, f a = .inl e → At K B S0 (W (.ref (Y e)) none) G1) :
    At K B S0 (tSeq (tDrop (tCallS (spX K Y f pre) (WE W) t)) u D) G := fun S σ H F kn =>
  ha B S0 S σ H F kn _ fun vs S1 H1 e1 k1 r1 => ⟨S1, a, k1.sub, r1, hp, fun y ey v S2 H2 g r2 => ok y ey S2 σ H2 F (k1.grow g), fun e ee S2 H2 g => er e ee S2 σ H2 F (k1.grow g)⟩
theorem q_retX [PyA α] [Py β] {f : α → XC ⊕ β} {pre : α → Prop} {a : α} (ha : EvA K t G a G1) (hp : pre a) (ok : ∀ y, f a = .inr y → RT K B S0 D.rt y G1) (er : ∀ e, f a = .inl e → At K B S0 (W (.ref (Y e)) none) G1) :
    At K B S0 (tSeq (tRet (tCallS (spX K Y f pre) (WE W) t)) u D) G := fun S σ H F kn =>
  ha B S0 S σ H F kn _ fun vs S1 H1 e1 k1 r1 => ⟨S1, a, k1.sub, r1, hp, fun y ey v S2 H2 g r2 => ok y ey S2 σ H2 F v (k1.grow g) r2, fun e ee S2 H2 g => er e ee S2 σ H2 F (k1.grow g)⟩
/-- raise X('..') -/
def tRaiseX (C : Addr) (W : WX) : TS := fun _ σ H => W (.ref C) none σ H
theorem q_raise {C : Addr} (h : At K B S0 (W (.ref C) none) G) : At K B S0 (tSeq (tRaiseX C W) u D) G := h
/-! ### try -/
/-- the clause meets it: its suite goes on, the refusal at the clause's name -/
theorem at_keep {e : XC} {c : Value} {ts : TS} (hm : PySem.W.exmOne K (.ref (Y e)) c = some true) (hi : G[i]?.isSome = true) (h : At K B S0 (ts (noSlot i D)) (G.set i (.im (Exc.mk (Y := Y) e)))) : At K B S0 (wKeep K c i ts D (.ref (Y e)) none) G := fun S σ H F kn =>
  ⟨hm, fun a na => h _ _ _ F ((kn.new na).set (x := Exc.mk (Y := Y) e) ⟨a, rfl, upd_same⟩ hi)⟩
theorem at_keep0 {e : XC} {c : Value} {ts : TS} (hm : PySem.W.exmOne K (.ref (Y e)) c = some true) (h : At K B S0 (ts D) G) : At K B S0 (wKeep0 K c ts D (.ref (Y e)) none) G := fun S σ H F kn =>
  ⟨hm, fun a na => h _ _ _ F (kn.new na)⟩
theorem at_off (h : At K B S0 D.nx (G.set i .no)) : At K B S0 (noSlot i D).nx G := fun S σ H F kn => h S _ H F kn.setNo
end
/-! ### the promise of a def that raises -/
structure CalX (P : Program) (w : World) (K : Fg) (mg : Str → Option Value) (base : Heap) (k : Nat) (x : Str) (ps : List Str) (sp : Sp) : Prop where
  ex : ∃ (f : Addr) (fd : FuncData), mg x = some (.ref f) ∧ FnOk P w K mg base (L2.CX P w) k f fd ps sp ∧ PySem.W.keepIn K (.ref f) = true ∧ Binds K fd ps []
theorem pe_calX {X : Cx} {j k : Nat} {x : Str} {ps : List Str} {sp : Sp} {e : Expr} {es : List Expr} {t : TA} {p pos : Pos} {W : WX} (c : CalX X.prog X.w X.K X.mg X.base k x ps sp) (tk : Takes X W) (hr : Room j X.A) (hk : k ≤ j) (hg : Gl X x) (ha : PA X (e :: es) t)
    (hd : (x == ("__debug__" : Str)) = false := by decide) (hs : starEach (e :: es) X.env = (false, eval e X.env) :: starEach es X.env := by rfl) (hpl : (backTo pos (starEach es X.env)).any (·.1) = false := by rfl) :
    PE X (.Call (.Name x p) (e :: es) [] pos) (tCallS sp (WE W) t) := by
  obtain ⟨f, fd, a, b, c, d⟩ := c.ex
  exact pe_callS b (hr.mono hk) hg a c d (fun σ => passAt tk σ) ha hd hs hpl
theorem ps_raiseX {X : Cx} {W : WX} {nm m : Str} {j : Nat} {p p2 pos pos2 : Pos} {C : Addr} (x : XCls X.K X.mg nm C) (hc : X.calm = true) (tk : Takes X W) (hg : Gl X nm) (hdb : (nm == ("__debug__" : Str)) = false := by decide) :
    PS X (.Raise (some (.Call (.Name nm p) [.Constant (.str m) j p2] [] pos)) none pos2) (tRaiseX C W) := ps_raise hc tk (pmk_own PySem.F.excBase_ValueError x.x x.g x.kp (raises_own x.hs x.ty) hg hdb)
section
variable {P : Program} {w : World} {K : Fg} {mg : Str → Option Value} {base : Heap} {α β : Type} [Sls α] [Py β] {Y : XC → Addr}
theorem def_spX {x : Str} {st : Stmt} {N ps : List Str} {k : Nat} {f : α → XC ⊕ β} {pre : α → Prop} (D : Def K mg x st ps) (S : FnScope N ps (defScope st)) (hn : PyA.n α = ps.length)
    (h : ∀ (fa : Addr) (cdv : Value) (A : Around) (outer : List Env) (s : Shared) (H : Hp) (E : XK), Room k (A.deeper (envOfC x (defScope st) s.heap.objs.size fa cdv)) →
      ∃ t, PSs (cxOf (L2.CX P w) P w K mg base N x (defScope st) fa cdv A outer s H E) (defBody st) t ∧
        ∀ (a : α), pre a → ∀ (B S0 : Hp) (Q : VK), (∀ G' y, f a = .inr y → RT K B S0 Q y G') → (∀ G' e, f a = .inl e → At K B S0 (fun _ H' => E (.ref (Y e)) none H') G') → At K B S0 (t { nx := fun _ H' => Q .non H', rt := Q }) (Sls.sls a ++ List.replicate (N.length - PyA.n α) .no)) :
    CalX P w K mg base (k + 1) x ps (spX K Y f pre) := by
  obtain ⟨fa, fd, m, F, b⟩ := D.ex
  refine ⟨fa, fd, m, F.okX S (fun vs H Q E ⟨S, a, _, r, _⟩ => (PyA.len r).trans hn) fun cdv A outer s H vs Q E hr ⟨S', a, e, r, hp, q, qe⟩ => ?_, F.kp, b⟩
  obtain ⟨t, h1, h2⟩ := h fa cdv A outer s H E hr
  exact ⟨t, h1, h2 a hp H S' Q (fun G' y ey S1 σ1 H1 F1 v k1 r1 => q y ey v S1 H1 ⟨k1.s0, k1.sub, k1.keep, k1.clean⟩ r1) (fun G' x ex S1 σ1 H1 F1 k1 => qe x ex S1 H1 ⟨k1.s0, k1.sub, k1.keep, k1.clean⟩) S' _ H _ (start_kn e r)⟩
end
end GL

/-! Loops in which an owned list is lent for a while, told things are changed, and the list is one's own again. -/
namespace GL
open PySem PySem.Spec PyProof.Rows L2
structure Lnt (α : Type) where
  B : Hp
  S1 : Hp
  SL : Hp
  x : List α
instance {α : Type} [Py α] : Py (Lnt α) := ⟨fun K S v y => ∃ q vs, v = .ref q ∧ y.SL = upd y.S1 q (.lst vs) ∧ y.S1 q = none ∧ y.B q = none ∧ RepL K y.S1 vs y.x ∧ Same y.SL S, fun e ⟨q, vs, h1, h2, h3, h4, h5, h6⟩ => ⟨q, vs, h1, h2, h3, h4, h5, h6.trans e⟩⟩
section
variable {K : Fg} {B S0 S1 S S' SL D : Hp} {σ : L2.St} {H H' : Hp} {F : Nat → List Addr} {G G' G1 G2 G3 : List Sl} {ta tb tc te : TE} {i j : Nat} {t u : TS} {E : Ends}
theorem EvX.unN {α : Type} [Py α] {w : Lnt α} (h : EvX K te G w G1) : EvX K te G w.x G1 := fun B S0 S σ H F k Q q => h B S0 S σ H F k Q fun v S' H' e k' r => q v S' H' e k' (by
  obtain ⟨p, vs, h1, h2, h3, h4, h5, h6⟩ := r
  have e1 : Same w.S1 w.SL := by rw [h2]; exact same_new h3
  exact ⟨p, vs, h1, h6 _ _ (by rw [h2]; exact upd_same), h5.mono (e1.trans h6)⟩)
/-- an owned list is lent -/
theorem Kn.lend {δ : Type} [Py δ] {x : List δ} (k : Kn K B S1 S1 σ H F G) (h : G[i]? = some (.ow x)) : ∃ SL, Same S1 SL ∧ Kn K B SL SL σ H (upF F i []) (G.set i (.im (Lnt.mk B S1 SL x))) := by
  obtain ⟨v, hv, p, vs, rfl, hp, h1, h2⟩ := k.ow h
  obtain ⟨hs, hb, _⟩ := k.off i p (by rw [hp]; exact List.mem_singleton.mpr rfl)
  have k1 : Kn K B S1 S1 σ H (upF F i []) (G.set i .no) := by
    refine ⟨k.s0, k.sub, k.keep, k.clean, fun j q hq => ?_, fun a b q ha hb' => ?_, by rw [List.length_set]; exact k.len, fun j s e => ?_⟩
    · by_cases e : j = i
      · rw [e, upF_self] at hq
        cases hq
      · rw [upF_ne e] at hq
        exact k.off j q hq
    · by_cases ea : a = i
      · rw [ea, upF_self] at ha
        cases ha
      · by_cases eb : b = i
        · rw [eb, upF_self] at hb'
          cases hb'
        · rw [upF_ne ea] at ha
          rw [upF_ne eb] at hb'
          exact k.dj a b q ha hb'
    · rcases set_get e with ⟨rfl, rfl⟩ | ⟨ne, e⟩
      · exact True.intro
      · rw [upF_ne ne]
        exact k.sl j s e
  have hf : ∀ j, p ∉ upF F i [] j := fun j hj => by
    by_cases e : j = i
    · rw [e, upF_self] at hj
      cases hj
    · rw [upF_ne e] at hj
      exact e (k.dj j i p hj (by rw [hp]; exact List.mem_singleton.mpr rfl))
  have k2 := (k1.settle h1 hs hb hf).reb
  have hl : i < G.length := (List.getElem?_eq_some_iff.mp h).1
  have k3 := k2.set (i := i) (v := .ref p) (x := Lnt.mk B S1 (upd S1 p (.lst vs)) x) ⟨p, vs, rfl, rfl, hs, hb, h2, Same.refl _⟩ (by rw [List.getElem?_set_self hl]; rfl)
  have e1 : σ.set i (some (.ref p)) = σ := by
    apply List.ext_getElem?
    intro j
    by_cases e : i = j
    · subst e
      rw [List.getElem?_set_self (by rw [← k.len]; exact hl)]
      exact hv.symm
    · rw [List.getElem?_set_ne e]
  rw [e1, List.set_set] at k3
  exact ⟨upd S1 p (.lst vs), same_new hs, k3⟩
/-- what is left of the state where the settled heap goes back to S, a lent thing among it -/
inductive ThX (S : Hp) : List Sl → List Sl → Prop
  | n : ThX S [] []
  | k {α : Type} [Py α] {x : α} {S' : Hp} {G G' : List Sl} (h : Same S' S) : ThX S G G' → ThX S (.im (At1.mk S' x) :: G) (.im (At1.mk S' x) :: G')
  | l {α : Type} [Py α] {x : List α} {B S' : Hp} {G G' : List Sl} : ThX S G G' → ThX S (.im (Lnt.mk B S' S x) :: G) (.im (Lnt.mk B S' S x) :: G')
  | o {α : Type} [Own α] [OwnI α] {x : α} {G G' : List Sl} : ThX S G G' → ThX S (.ow x :: G) (.ow x :: G')
  | d {s : Sl} {G G' : List Sl} : ThX S G G' → ThX S (.no :: G) (s :: G')
theorem ThX.len {G G' : List Sl} (h : ThX S G G') : G.length = G'.length := by
  induction h with
  | n => rfl
  | k _ _ ih => rw [List.length_cons, List.length_cons, ih]
  | l _ ih => rw [List.length_cons, List.length_cons, ih]
  | o _ ih => rw [List.length_cons, List.length_cons, ih]
  | d _ ih => rw [List.length_cons, List.length_cons, ih]
theorem ThX.get {G G' : List Sl} (t : ThX S G G') : ∀ (i : Nat) (s : Sl), G[i]? = some s → ∃ s', G'[i]? = some s' ∧ ∀ (K : Fg) (S2 H H' : Hp) (sv : Option (Option V)) (ps : List Addr), (∀ p ∈ ps, H' p = H p) → SlOk K S2 H sv ps s' → SlOk K S H' sv ps s := by
  induction t with
  | n => intro i s e; simp at e
  | k h t ih =>
    intro i s e
    cases i with
    | zero =>
      simp only [List.getElem?_cons_zero, Option.some.injEq] at e
      subst e
      exact ⟨_, rfl, fun K S2 H H' sv ps hH ⟨v, h1, h2, h3⟩ => ⟨v, h1, h2, h⟩⟩
    | succ i => simpa using ih i s (by simpa using e)
  | l t ih =>
    intro i s e
    cases i with
    | zero =>
      simp only [List.getElem?_cons_zero, Option.some.injEq] at e
      subst e
      exact ⟨_, rfl, fun K S2 H H' sv ps hH ⟨v, h1, q, vs, a1, a2, a3, a4, a5, a6⟩ => ⟨v, h1, q, vs, a1, a2, a3, a4, a5, Same.refl _⟩⟩
    | succ i => simpa using ih i s (by simpa using e)
  | o t ih =>
    intro i s e
    cases i with
    | zero =>
      simp only [List.getElem?_cons_zero, Option.some.injEq] at e
      subst e
      exact ⟨_, rfl, fun K S2 H H' sv ps hH ⟨v, h1, h2⟩ => ⟨v, h1, Own.mono (Same.refl _) hH (OwnI.go h2)⟩⟩
    | succ i => simpa using ih i s (by simpa using e)
  | d t ih =>
    intro i s e
    cases i with
    | zero =>
      simp only [List.getElem?_cons_zero, Option.some.injEq] at e
      subst e
      exact ⟨_, rfl, fun K S2 H H' sv ps hH _ => True.intro⟩
    | succ i => simpa using ih i s (by simpa using e)
theorem Kn.thawX {p : Addr} {o o' : HO} {G2 : List Sl} (k : Kn K B S0 S σ H F G) (hp : S p = some o') (h0 : S0 p = none) (t : ThX S0 G2 G) : Kn K B S0 S0 σ (upd H p o) F G2 := by
  have hb : B p = none := by
    cases e : B p with
    | none => rfl
    | some x =>
      have := k.clean p x e
      rw [hp, h0] at this
      cases this
  have hF : ∀ i q, q ∈ F i → q ≠ p := fun i q hq e => by
    have := (k.off i q hq).1
    rw [e, hp] at this
    cases this
  refine ⟨Same.refl _, fun q x e => ?_, fun q x e => ?_, fun _ _ _ => rfl, fun i q hq => ?_, k.dj, t.len.trans k.len, fun i s e => ?_⟩
  · rw [upd_ne (ne_of_none e h0)]
    exact k.sub q x (k.s0 q x e)
  · rw [upd_ne (ne_of_none e hb)]
    exact k.keep q x e
  · obtain ⟨h1, h2, w, h3⟩ := k.off i q hq
    exact ⟨k.s0.free h1, h2, w, by rw [upd_ne (hF i q hq)]; exact h3⟩
  · obtain ⟨s', h1, h2⟩ := t.get i s e
    exact h2 K S H _ _ _ (fun q hq => upd_ne (hF i q hq)) (k.sl i s' h1)
theorem q_clrX {α : Type} [Py α] {xs : List α} {D : Ends} {G3 : List Sl} (h : EvX K te G (Fx.mk S0 xs) G1) (t : ThX S0 G3 G1) (k : At K B S0 (u D) G3) : At K B S0 (tSeq (tDrop (tBM0 K "list" rClear te)) u D) G := fun S σ H F kn =>
  h B S0 S σ H F kn _ fun v S1 H1 e1 k1 r1 => by
    obtain ⟨⟨p, vs, rfl, hp, hr⟩, p', ep, h0⟩ := r1
    cases ep
    exact ⟨.inl ⟨rfl, _, SqL.of (k1.sub _ _ hp)⟩, p, vs, rfl, rfl, k1.sub _ _ hp, k S0 σ _ F (k1.thawX hp h0 t)⟩
theorem q_appX {α β : Type} [Py α] [Py β] {xs : List α} {D : Ends} {y : β} {G3 : List Sl} (h : EvX K te G (Fx.mk S0 xs) G1) (hy : EvX K ta G1 y G2) (hz : xs.length < 1000000) (t : ThX S0 G3 G2) (k : At K B S0 (u D) G3) : At K B S0 (tSeq (tDrop (tBM K "list" rAppend te (tCons ta tNil))) u D) G := fun S σ H F kn =>
  h B S0 S σ H F kn _ fun v S1 H1 e1 k1 r1 => by
    obtain ⟨⟨p, vs, rfl, hp, hr⟩, p', ep, h0⟩ := r1
    cases ep
    exact ⟨.inl ⟨rfl, _, SqL.of (k1.sub _ _ hp)⟩, hy B S0 S1 σ H1 F k1 _ fun w S2 H2 e2 k2 r2 => ⟨p, vs, w, rfl, rfl, k2.sub _ _ (e2 _ _ hp), by rw [hr.len]; exact Nat.lt_trans hz (by decide), k S0 σ _ F (k2.thawX (e2 _ _ hp) h0 t)⟩⟩
/-- what stays where a lent list is one's own again -/
inductive Kp (S : Hp) : Sl → Sl → Prop
  | k {α : Type} [Py α] {x : α} : Kp S (.im (At1.mk S x)) (.im (At1.mk S x))
  | o {α : Type} [Own α] [OwnI α] {x : α} : Kp S (.ow x) (.ow x)
  | d {s : Sl} : Kp S .no s
theorem Kp.ok {s s' : Sl} {S2 : Hp} {sv : Option (Option V)} {ps : List Addr} (h : Kp S s s') (q : SlOk K S2 H sv ps s') : SlOk K S H sv ps s := by
  cases h with
  | k =>
    obtain ⟨v, h1, h2, h3⟩ := q
    exact ⟨v, h1, h2, Same.refl _⟩
  | o =>
    obtain ⟨v, h1, h2⟩ := q
    exact ⟨v, h1, OwnI.go h2⟩
  | d => exact True.intro
inductive Kps (S : Hp) : List Sl → List Sl → Prop
  | n : Kps S [] []
  | c {s s' : Sl} {G G' : List Sl} : Kp S s s' → Kps S G G' → Kps S (s :: G) (s' :: G')
theorem Kps.len {G G' : List Sl} (h : Kps S G G') : G.length = G'.length := by
  induction h with
  | n => rfl
  | c _ _ ih => rw [List.length_cons, List.length_cons, ih]
theorem Kps.get {G G' : List Sl} (t : Kps S G G') : ∀ (i : Nat) (s : Sl), G[i]? = some s → ∃ s', G'[i]? = some s' ∧ Kp S s s' := by
  induction t with
  | n => intro i s e; simp at e
  | c h t ih =>
    intro i s e
    cases i with
    | zero =>
      simp only [List.getElem?_cons_zero, Option.some.injEq] at e
      subst e
      exact ⟨_, rfl, h⟩
    | succ i => simpa using ih i s (by simpa using e)
theorem at_unlend {δ : Type} [Py δ] {xs : List δ} {P : L2.St → Hp → Prop} (hi : G[i]? = some (.im (Lnt.mk B S1 SL xs))) (t : Kps S1 (G2.set i .no) G) (h2 : G2[i]? = some (.ow xs)) (k : At K B S1 P G2) : At K B SL P G := fun S σ H F kn => by
  obtain ⟨v, hv, q, vs, rfl, hSL, hq1, hqB, hr, hS⟩ := kn.im hi
  dsimp only at hSL hq1 hqB hr hS
  have e1 : Same S1 SL := by rw [hSL]; exact same_new hq1
  have hSq : S q = some (.lst vs) := hS _ _ (by rw [hSL]; exact upd_same)
  have hqF : ∀ j, q ∉ F j := fun j hj => by
    have := (kn.off j q hj).1
    rw [hSq] at this
    cases this
  have hl : G2.length = G.length := by have := t.len; rw [List.length_set] at this; exact this
  refine k S1 σ H (upF F i [q]) ⟨Same.refl _, (e1.trans hS).trans kn.sub, kn.keep, fun _ _ _ => rfl, fun j p hp => ?_, fun a b p ha hb => ?_, hl.trans kn.len, fun j s e => ?_⟩
  · by_cases z : j = i
    · rw [z, upF_self] at hp
      rw [List.mem_singleton.mp hp]
      exact ⟨hq1, hqB, _, kn.sub _ _ hSq⟩
    · rw [upF_ne z] at hp
      obtain ⟨a1, a2, a3⟩ := kn.off j p hp
      exact ⟨(e1.trans hS).free a1, a2, a3⟩
  · by_cases za : a = i
    · by_cases zb : b = i
      · rw [za, zb]
      · rw [za, upF_self] at ha
        rw [upF_ne zb, List.mem_singleton.mp ha] at hb
        exact absurd hb (hqF b)
    · rw [upF_ne za] at ha
      by_cases zb : b = i
      · rw [zb, upF_self] at hb
        rw [List.mem_singleton.mp hb] at ha
        exact absurd ha (hqF a)
      · rw [upF_ne zb] at hb
        exact kn.dj a b p ha hb
  · by_cases z : j = i
    · subst z
      rw [h2] at e
      cases e
      rw [upF_self]
      exact ⟨.ref q, hv, q, vs, rfl, rfl, kn.sub _ _ hSq, hr⟩
    · rw [upF_ne z]
      obtain ⟨s', h3, h4⟩ := t.get j s (by rw [List.getElem?_set_ne (fun w => z w.symm)]; exact e)
      exact h4.ok (kn.sl j s' h3)
/-- forgetting, and that a thing stood at the base -/
inductive LeU : List Sl → List Sl → Prop
  | n : LeU [] []
  | k {s : Sl} {G G' : List Sl} : LeU G G' → LeU (s :: G) (s :: G')
  | d {s : Sl} {G G' : List Sl} : LeU G G' → LeU (.no :: G) (s :: G')
  | t {α : Type} [Py α] {x : α} {S : Hp} {G G' : List Sl} : LeU G G' → LeU (.im x :: G) (.im (At1.mk S x) :: G')
theorem LeU.len {G G' : List Sl} (h : LeU G G') : G.length = G'.length := by
  induction h with
  | n => rfl
  | k _ ih => rw [List.length_cons, List.length_cons, ih]
  | d _ ih => rw [List.length_cons, List.length_cons, ih]
  | t _ ih => rw [List.length_cons, List.length_cons, ih]
theorem LeU.get {G G' : List Sl} (t : LeU G G') : ∀ (i : Nat) (s : Sl), G[i]? = some s → ∃ s', G'[i]? = some s' ∧ ∀ (K : Fg) (S H : Hp) (sv : Option (Option V)) (ps : List Addr), SlOk K S H sv ps s' → SlOk K S H sv ps s := by
  induction t with
  | n => intro i s e; simp at e
  | k t ih =>
    intro i s e
    cases i with
    | zero => exact ⟨s, e, fun _ _ _ _ _ h => h⟩
    | succ i => simpa using ih i s (by simpa using e)
  | d t ih =>
    intro i s e
    cases i with
    | zero =>
      simp only [List.getElem?_cons_zero, Option.some.injEq] at e
      subst e
      exact ⟨_, rfl, fun _ _ _ _ _ _ => True.intro⟩
    | succ i => simpa using ih i s (by simpa using e)
  | t t ih =>
    intro i s e
    cases i with
    | zero =>
      simp only [List.getElem?_cons_zero, Option.some.injEq] at e
      subst e
      exact ⟨_, rfl, fun _ _ _ _ _ ⟨v, h1, h2, h3⟩ => ⟨v, h1, Py.mono h3 h2⟩⟩
    | succ i => simpa using ih i s (by simpa using e)
theorem Kn.leU {G' : List Sl} (k : Kn K B S0 S σ H F G) (h : LeU G' G) : Kn K B S0 S σ H F G' :=
  ⟨k.s0, k.sub, k.keep, k.clean, k.off, k.dj, h.len.trans k.len, fun i s e => by
    obtain ⟨s', h1, h2⟩ := h.get i s e
    exact h2 _ _ _ _ _ (k.sl i s' h1)⟩
theorem at_midU {P : List Sl → Prop} (h : LeU G' G) (p : P G') : At K B S0 (Mid K B S0 P) G := fun S σ H F k => ⟨S, F, G', k.leU h, p⟩
/-- a loop in each turn of which the owned list of slot i is lent at first -/
theorem qg_invB {α τ δ : Type} [Py α] [Py δ] {wi : TI} {g : TG} {tb : TS} {its : List α} (i : Nat) (γ : τ → List Sl) (xs : τ → List δ) (I : List α → τ → Prop) (s0 : τ) (hi : ItG K wi G its G1) (h0 : Le (γ s0) G1) (hI : I [] s0) (hx : ∀ s, (γ s)[i]? = some (.ow (xs s)))
    (hs : ∀ pre x post s, pre ++ x :: post = its → I pre s → ∀ S1 SL, Reb B S0 S1 → Same S1 SL → ∃ G2 ts, TgG K g x (((γ s).map (frz S1)).set i (.im (Lnt.mk B S1 SL (xs s)))) G2 ts ∧ At K B SL (tb { E with nx := Mid K B S1 (fun G' => ∃ s', G' = γ s' ∧ I (pre ++ [x]) s'), ct := Mid K B S1 (fun G' => ∃ s', G' = γ s' ∧ I (pre ++ [x]) s'), bk := u E }) G2)
    (hd : ∀ s, I its s → At K B S0 (u E) (γ s)) : At K B S0 (tSeq (tFor wi g tb) u E) G := fun S σ H F kn =>
  hi B S0 S σ H F kn _ fun J Si H1 e1 k1 wk => by
    have rb : Reb B S0 Si := k1.rebOf
    refine ⟨fun i m σ H => ∃ pre post S F s, pre ++ post = its ∧ pre.length = i ∧ post.length = m ∧ Kn K B Si S σ H F (γ s) ∧ I pre s, ⟨its.length, [], its, Si, F, s0, rfl, rfl, rfl, (k1.le h0).reb, hI⟩, ?_⟩
    rintro ii m σ' H' ⟨pre, post, S2, F2, s, ex, rfl, rfl, k2, p⟩
    cases post with
    | nil =>
      refine .inl ⟨(wk S2 H' pre.length k2.s0 k2.sub).2 (by rw [← ex, List.append_nil]; exact Nat.le_refl _), ?_⟩
      rw [List.append_nil] at ex
      subst ex
      exact hd s p S2 σ' H' F2 (k2.unreb rb)
    | cons x post =>
      have hx' : its[pre.length]? = some x := by
        rw [← ex, List.getElem?_append_right (Nat.le_refl _), Nat.sub_self]
        rfl
      have rb2 : Reb B Si S2 := k2.rebOf
      have kf := k2.frz
      obtain ⟨SL, eL, kL⟩ := kf.lend (i := i) (x := xs s) (by rw [List.getElem?_map, hx s]; rfl)
      obtain ⟨go, yl⟩ := (wk SL H' pre.length (k2.s0.trans eL) kL.sub).1 x hx'
      refine .inr ⟨go, Mid K B S2 (fun G' => ∃ s', G' = γ s' ∧ I (pre ++ [x]) s'), ?_, ?_⟩
      · rintro σ3 H3 ⟨S3, F3, G3, k3, s3, e3, p3⟩
        subst e3
        exact ⟨post.length, by rw [List.length_cons]; omega, pre ++ [x], post, S3, F3, s3, by rw [← ex, List.append_assoc]; rfl, by rw [List.length_append]; rfl, rfl, k3.unreb rb2, p3⟩
      · intro v H3 y
        obtain ⟨S3, gr, r⟩ := yl v H3 y
        obtain ⟨G2, ts, tg, bd⟩ := hs pre x post s ex p S2 SL (rb.trans rb2) eL
        exact tg.2 B SL S3 σ' H3 _ v (kL.grow gr) r _ fun σ4 k4 _ _ => bd S3 σ4 H3 _ k4
end
end GL

/-! What a carried program's methods do to it. -/
namespace L2
open PySem PySem.Spec PyProof.Rows
section
variable {X : Cx}
/-- as pe_fld, inside a comprehension -/
theorem pe_fldK {K : PySem.W.Frag} {e : Expr} {f : Str} {pos : Pos} {ta : TE} (hK : X.K = K) (he : PE X e ta) (hb : attributeBase e f X.env (eval e X.env) = eval e X.env) : PE X (.Attribute e f pos) (tFld K ta f) := by
  subst hK
  exact pe_fld he hb
/-- d != {} -/
def rNeE : R2 := fun x y H Q => ∃ a b ks, x = .ref a ∧ y = .ref b ∧ H a = some (.dK ks) ∧ H b = some (.dK []) ∧ Q (.bl (!ks.isEmpty)) H
theorem op_neE (hu : X.A.units < cLine) : OpR X (compareOp .NotEq) rNeE := by
  intro pins s σ H x y v u Q I rx ry h
  obtain ⟨a, b, ks, rfl, rfl, ea, eb, q⟩ := h
  obtain rfl : v = Value.ref a := rx
  obtain rfl : u = Value.ref b := ry
  obtain ⟨_, ya, va, ra, da⟩ := (show ObjOk X.prog X.w H s.heap a (.dK ks) from I.hok a _ ea)
  obtain ⟨_, yb, vb, rb, db⟩ := (show ObjOk X.prog X.w H s.heap b (.dK []) from I.hok b _ eb)
  have la : va.length = ks.length := ra.length.symm
  have lb : vb.length = 0 := rb.length.symm
  refine PySem.W.keq_ne (knd := mixKind X.prog X.w) (r := true) ya yb da db hu (fun hl => ?_) (fin_bl I q ?_)
  · cases va with
    | nil => exact .nil
    | cons p va => rw [lb] at hl; cases hl
  · cases ks with
    | nil => rw [List.length_nil] at la; rw [la, lb]; rfl
    | cons p ks => rw [la, lb]; rfl
end
end L2
namespace GL
open PySem PySem.Spec PyProof.Rows L2
theorem fld_mem {f : Str} : ∀ ks : List Str, fIx f ks < ks.length → f ∈ ks := fun ks => by
  induction ks with
  | nil => intro h; exact absurd h (Nat.not_lt_zero _)
  | cons k ks ih =>
    intro h
    unfold fIx at h
    by_cases c : k = f
    · rw [c]; exact List.mem_cons_self
    · rw [if_neg c] at h
      exact List.mem_cons_of_mem _ (ih (by simpa using h))
section
variable {C : Addr} {K : Fg} {S S' H H' : Hp} {z z' : Car C} {dx : Addr} {pv sv : V} {kf kb : List (Key × V)}
theorem CarAt.some (c : CarAt K S H z dx pv sv kf kb) {q : Addr} (h : q ∈ z.fp) : ∃ o, H q = some o := by
  simp only [Car.fp, List.mem_cons, List.mem_nil_iff, or_false] at h
  rcases h with e | e | e | e | e <;> rw [e]
  · exact ⟨_, c.ob⟩
  · exact ⟨_, c.hw⟩
  · exact ⟨_, c.hs⟩
  · exact ⟨_, c.hf⟩
  · exact ⟨_, c.hb⟩
theorem CarAt.setW {l : List Int} (c : CarAt K S H z dx pv sv kf kb) : CarAt K S (upd H z.w (.lst (l.map V.int))) ({ z with wait := l } : Car C) dx pv sv kf kb :=
  ⟨c.cl, c.na, by rw [upd_ne c.ne_w.symm]; exact c.ob, c.rg, c.rs, upd_same, by show upd H z.w _ z.s = _; rw [upd_ne c.d1.symm]; exact c.hs, by show upd H z.w _ z.f = _; rw [upd_ne c.ne_wf.symm]; exact c.hf, c.rf, by show upd H z.w _ z.b = _; rw [upd_ne c.ne_wb.symm]; exact c.hb, c.rb, c.d1, c.d2⟩
theorem CarAt.setS {l : List Int} (c : CarAt K S H z dx pv sv kf kb) : CarAt K S (upd H z.s (.lst (l.map V.int))) ({ z with said := l } : Car C) dx pv sv kf kb :=
  ⟨c.cl, c.na, by rw [upd_ne c.ne_s.symm]; exact c.ob, c.rg, c.rs, by show upd H z.s _ z.w = _; rw [upd_ne c.d1]; exact c.hw, upd_same, by show upd H z.s _ z.f = _; rw [upd_ne c.ne_sf.symm]; exact c.hf, c.rf, by show upd H z.s _ z.b = _; rw [upd_ne c.ne_sb.symm]; exact c.hb, c.rb, c.d1, c.d2⟩
theorem CarAt.setF {d : Dct Bool} {kf' : List (Key × V)} (c : CarAt K S H z dx pv sv kf kb) (r : RepD K S kf' d.l) : CarAt K S (upd H z.f (.dK kf')) ({ z with fresh := d } : Car C) dx pv sv kf' kb :=
  ⟨c.cl, c.na, by rw [upd_ne c.ne_f.symm]; exact c.ob, c.rg, c.rs, by show upd H z.f _ z.w = _; rw [upd_ne c.ne_wf]; exact c.hw, by show upd H z.f _ z.s = _; rw [upd_ne c.ne_sf]; exact c.hs, upd_same, r, by show upd H z.f _ z.b = _; rw [upd_ne c.d2.symm]; exact c.hb, c.rb, c.d1, c.d2⟩
theorem CarAt.setB {d : Dct Bool} {kb' : List (Key × V)} (c : CarAt K S H z dx pv sv kf kb) (r : RepD K S kb' d.l) : CarAt K S (upd H z.b (.dK kb')) ({ z with absent := d } : Car C) dx pv sv kf kb' :=
  ⟨c.cl, c.na, by rw [upd_ne c.ne_b.symm]; exact c.ob, c.rg, c.rs, by show upd H z.b _ z.w = _; rw [upd_ne c.ne_wb]; exact c.hw, by show upd H z.b _ z.s = _; rw [upd_ne c.ne_sb]; exact c.hs, by show upd H z.b _ z.f = _; rw [upd_ne c.d2]; exact c.hf, c.rf, upd_same, r, c.d1, c.d2⟩
end
section
variable {C : Addr} {K : Fg} {B S0 S1 S S' D : Hp} {σ : L2.St} {H H' : Hp} {F : Nat → List Addr} {G G' G1 G2 G3 G4 G5 : List Sl} {ta tb tc td te : TE} {i j l : Nat} {t u : TS} {E : Ends} {z z' : Car C} {dx : Addr} {pv sv : V} {kf kb : List (Key × V)}
theorem car_upd (k : Kn K B S0 S σ H F G) (hi : G[i]? = some (.ow z)) (c : CarAt K S H' z' dx pv sv kf kb) (hf : z'.fp = z.fp) (h : ∀ q, q ∉ z.fp → H' q = H q) : Kn K B S0 S σ H' F (G.set i (.ow z')) := by
  obtain ⟨h1, h2, _⟩ := car_at k hi
  have ha : z'.a = z.a := by
    have := hf
    unfold Car.fp at this
    exact (List.cons.inj this).1
  exact k.mut h1 (fun q hq => h q (by rw [← h2]; exact hq)) (fun q hq => c.some (by rw [hf, ← h2]; exact hq)) ⟨by rw [ha], by rw [h2, hf], dx, pv, sv, kf, kb, c⟩
theorem fp_a {q : Addr} (h : q ∉ z.fp) : q ≠ z.a := fun e => h (by rw [e]; simp [Car.fp])
theorem fp_w {q : Addr} (h : q ∉ z.fp) : q ≠ z.w := fun e => h (by rw [e]; simp [Car.fp])
theorem fp_s {q : Addr} (h : q ∉ z.fp) : q ≠ z.s := fun e => h (by rw [e]; simp [Car.fp])
theorem fp_f {q : Addr} (h : q ∉ z.fp) : q ≠ z.f := fun e => h (by rw [e]; simp [Car.fp])
theorem fp_b {q : Addr} (h : q ∉ z.fp) : q ≠ z.b := fun e => h (by rw [e]; simp [Car.fp])
/-! fields set -/
theorem q_fld {α : Type} [Py α] {x : α} {f : Str} (n : Nat) (z' : Car C) (hn : fIx f carK = n) (hl : n < 12) (h : EvX K te G x G1) (hi : G1[i]? = some (.ow z)) (hf : z'.fp = z.fp)
    (step : ∀ {S H : Hp} {dx : Addr} {pv sv : V} {kf kb : List (Key × V)} {v : V}, CarAt K S H z dx pv sv kf kb → Py.rep K S v x → ∃ pv' sv', CarAt K S (upd H z.a (.ins C dx (putF f v (carK.zip (carV z pv sv))))) z' dx pv' sv' kf kb)
    (k : At K B S0 (u E) (G1.set i (.ow z'))) : At K B S0 (tSeq (sFld K (tVar i) te f) u E) G := fun S σ H F kn =>
  h B S0 S σ H F kn _ fun v S1 H1 e1 k1 r1 => by
    obtain ⟨h1, h2, dx, pv, sv, kf, kb, c⟩ := car_at k1 hi
    obtain ⟨pv', sv', c'⟩ := step c r1
    exact ⟨.ref z.a, h1, z.a, C, dx, _, rfl, c.ob, c.cl, c.na f (fld_mem _ (by rw [hn]; exact hl)), by show (carK.zip (carV z pv sv)).length < 1000; simp [carK, carV], k S1 σ _ F (car_upd k1 hi c' hf fun q hq => upd_ne (fp_a hq))⟩
theorem q_place {x : Int} (h : EvX K te G x G1) (hi : G1[i]? = some (.ow z)) (k : At K B S0 (u E) (G1.set i (.ow ({ z with place := x } : Car C)))) : At K B S0 (tSeq (sFld K (tVar i) te "place") u E) G :=
  q_fld 3 ({ z with place := x } : Car C) (by decide +kernel) (by decide) h hi rfl (fun c r => ⟨_, _, c.set (n := 3) (by decide +kernel) (by decide) (by rw [show _ = V.int x from r]; rfl) rfl rfl rfl rfl rfl rfl rfl rfl rfl c.rg c.rs⟩) k
theorem q_done {x : Int} (h : EvX K te G x G1) (hi : G1[i]? = some (.ow z)) (k : At K B S0 (u E) (G1.set i (.ow ({ z with done := x } : Car C)))) : At K B S0 (tSeq (sFld K (tVar i) te "done") u E) G :=
  q_fld 6 ({ z with done := x } : Car C) (by decide +kernel) (by decide) h hi rfl (fun c r => ⟨_, _, c.set (n := 6) (by decide +kernel) (by decide) (by rw [show _ = V.int x from r]; rfl) rfl rfl rfl rfl rfl rfl rfl rfl rfl c.rg c.rs⟩) k
theorem q_made {x : Int} (h : EvX K te G x G1) (hi : G1[i]? = some (.ow z)) (k : At K B S0 (u E) (G1.set i (.ow ({ z with made := x } : Car C)))) : At K B S0 (tSeq (sFld K (tVar i) te "made") u E) G :=
  q_fld 10 ({ z with made := x } : Car C) (by decide +kernel) (by decide) h hi rfl (fun c r => ⟨_, _, c.set (n := 10) (by decide +kernel) (by decide) (by rw [show _ = V.int x from r]; rfl) rfl rfl rfl rfl rfl rfl rfl rfl rfl c.rg c.rs⟩) k
theorem q_goal {x : Option Int} (h : EvX K te G x G1) (hi : G1[i]? = some (.ow z)) (k : At K B S0 (u E) (G1.set i (.ow ({ z with goal := x } : Car C)))) : At K B S0 (tSeq (sFld K (tVar i) te "goal") u E) G :=
  q_fld 7 ({ z with goal := x } : Car C) (by decide +kernel) (by decide) h hi rfl (fun c r => ⟨_, _, c.set (n := 7) (by decide +kernel) (by decide) (by rw [oV_rep r]; rfl) rfl rfl rfl rfl rfl rfl rfl rfl rfl c.rg c.rs⟩) k
theorem q_is_still {x : Bool} (h : EvX K te G x G1) (hi : G1[i]? = some (.ow z)) (k : At K B S0 (u E) (G1.set i (.ow ({ z with still := x } : Car C)))) : At K B S0 (tSeq (sFld K (tVar i) te "is_still") u E) G :=
  q_fld 8 ({ z with still := x } : Car C) (by decide +kernel) (by decide) h hi rfl (fun c r => ⟨_, _, c.set (n := 8) (by decide +kernel) (by decide) (by rw [show _ = V.bl x from r]; rfl) rfl rfl rfl rfl rfl rfl rfl rfl rfl c.rg c.rs⟩) k
/-! what lies in it -/
theorem fld_ref {f : Str} (n : Nat) (hn : fIx f carK = n) (hl : n < 12) (k : Kn K B S0 S σ H F G) (hi : G[i]? = some (.ow z)) {p : Addr} {Q : VK} (hv : ∀ pv sv, (carV z pv sv)[n]? = some (V.ref p)) (q : Q (.ref p) H) : tFld K (tVar i) f σ H Q := by
  obtain ⟨h1, h2, dx, pv, sv, kf, kb, c⟩ := car_at k hi
  exact ⟨.ref z.a, h1, z.a, C, dx, _, _, rfl, c.ob, c.cl, c.na f (fld_mem _ (by rw [hn]; exact hl)), by rw [look_zip hn hl]; exact hv pv sv, q⟩
theorem at_w {Q : VK} (k : Kn K B S0 S σ H F G) (hi : G[i]? = some (.ow z)) (q : Q (.ref z.w) H) : tFld K (tVar i) "waiting" σ H Q := fld_ref 4 (by decide +kernel) (by decide) k hi (fun _ _ => rfl) q
theorem at_s {Q : VK} (k : Kn K B S0 S σ H F G) (hi : G[i]? = some (.ow z)) (q : Q (.ref z.s) H) : tFld K (tVar i) "spoken" σ H Q := fld_ref 5 (by decide +kernel) (by decide) k hi (fun _ _ => rfl) q
theorem at_f {Q : VK} (k : Kn K B S0 S σ H F G) (hi : G[i]? = some (.ow z)) (q : Q (.ref z.f) H) : tFld K (tVar i) "fresh" σ H Q := fld_ref 9 (by decide +kernel) (by decide) k hi (fun _ _ => rfl) q
theorem at_b {Q : VK} (k : Kn K B S0 S σ H F G) (hi : G[i]? = some (.ow z)) (q : Q (.ref z.b) H) : tFld K (tVar i) "absent" σ H Q := fld_ref 11 (by decide +kernel) (by decide) k hi (fun _ _ => rfl) q
theorem ev_inB_ {n : Int} (hk : EvX K ta G n G) (hi : G[i]? = some (.ow z)) : EvX K (tDIn ta (tFld K (tVar i) "absent")) G (z.absent.get? n).isSome G := fun B S0 S σ H F k Q q =>
  hk B S0 S σ H F k _ fun v S1 H1 e1 k1 r1 => at_b k1 hi (by
    obtain ⟨h1, h2, dx, pv, sv, kf, kb, c⟩ := car_at k1 hi
    rw [show v = .int n from r1]
    exact ⟨z.b, _, rfl, dgetI c.hb, q _ S1 H1 e1 k1 (by rw [c.rb.isSome]; rfl)⟩)
theorem ev_ninB_ {n : Int} (hk : EvX K ta G n G) (hi : G[i]? = some (.ow z)) : EvX K (tDNotIn ta (tFld K (tVar i) "absent")) G (!(z.absent.get? n).isSome) G := fun B S0 S σ H F k Q q =>
  hk B S0 S σ H F k _ fun v S1 H1 e1 k1 r1 => at_b k1 hi (by
    obtain ⟨h1, h2, dx, pv, sv, kf, kb, c⟩ := car_at k1 hi
    rw [show v = .int n from r1]
    exact ⟨z.b, _, rfl, dgetI c.hb, q _ S1 H1 e1 k1 (by rw [c.rb.isSome]; rfl)⟩)
theorem ev_ninF {n : Int} (hk : EvX K ta G n G) (hi : G[i]? = some (.ow z)) : EvX K (tDNotIn ta (tFld K (tVar i) "fresh")) G (!(z.fresh.get? n).isSome) G := fun B S0 S σ H F k Q q =>
  hk B S0 S σ H F k _ fun v S1 H1 e1 k1 r1 => at_f k1 hi (by
    obtain ⟨h1, h2, dx, pv, sv, kf, kb, c⟩ := car_at k1 hi
    rw [show v = .int n from r1]
    exact ⟨z.f, _, rfl, dgetI c.hf, q _ S1 H1 e1 k1 (by rw [c.rf.isSome]; rfl)⟩)
theorem ev_neB (hi : G[i]? = some (.ow z)) : EvX K (tOp rNeE (tFld K (tVar i) "absent") tDNewK) G (!z.absent.l.isEmpty) G := fun B S0 S σ H F k Q q => at_b k hi (by
  intro p hp
  obtain ⟨h1, h2, dx, pv, sv, kf, kb, c⟩ := car_at k hi
  refine ⟨z.b, p, kb, rfl, rfl, by rw [upd_ne (ne_of_none c.hb hp)]; exact c.hb, upd_same, q _ S _ (Same.refl _) (k.raw hp) ?_⟩
  have hl := c.rb.len
  cases kb <;> cases e : z.absent.l <;> rw [e] at hl <;> first | rfl | cases hl)
theorem ev_popW (hi : G[i]? = some (.ow z)) (hx : z.wait ≠ []) : EvX K (tBM K "list" rPopAt (tFld K (tVar i) "waiting") (tCons (tC (.int 0)) tNil)) G (ix z.wait 0) (G.set i (.ow ({ z with wait := z.wait.drop 1 } : Car C))) := fun B S0 S σ H F k Q q => at_w k hi (by
  obtain ⟨h1, h2, dx, pv, sv, kf, kb, c⟩ := car_at k hi
  have hw := c.hw
  cases e : z.wait with
  | nil => exact absurd e hx
  | cons x xs =>
    rw [e] at hw
    refine ⟨.inl ⟨rfl, _, SqL.of hw⟩, z.w, (x :: xs).map V.int, 0, 0, .int x, rfl, rfl, hw, by decide, by decide, ?_, rfl, q _ S _ (Same.refl _) ?_ (by rw [e]; rfl)⟩
    · unfold seqIndex?
      simp
    · have c' := c.setW (l := xs)
      exact car_upd (z' := ({ z with wait := z.wait.drop 1 } : Car C)) k hi (by rw [e]; exact c') rfl fun q hq => upd_ne (fp_w hq))
theorem q_appS {x : Int} (hi : G[i]? = some (.ow z)) (h : EvX K te G x G) (hz : z.said.length < sizeLine) (k : At K B S0 (u E) (G.set i (.ow ({ z with said := z.said ++ [x] } : Car C)))) : At K B S0 (tSeq (tDrop (tBM K "list" rAppend (tFld K (tVar i) "spoken") (tCons te tNil))) u E) G := fun S σ H F kn => by
  unfold tSeq tDrop tBM
  refine at_s kn hi ?_
  obtain ⟨h1, h2, dx, pv, sv, kf, kb, c⟩ := car_at kn hi
  refine ⟨.inl ⟨rfl, _, SqL.of c.hs⟩, h B S0 S σ H F kn _ fun v S1 H1 e1 k1 r1 => ?_⟩
  obtain ⟨h1, h2, dx, pv, sv, kf, kb, c⟩ := car_at k1 hi
  refine ⟨z.s, _, v, rfl, rfl, c.hs, by rw [List.length_map]; exact hz, k S1 σ _ F (car_upd (dx := dx) (pv := pv) (sv := sv) (kf := kf) (kb := kb) k1 hi ?_ rfl fun q hq => upd_ne (fp_s hq))⟩
  rw [show v = .int x from r1, ← List.map_singleton (f := V.int), ← List.map_append]
  exact c.setS
theorem q_appW {x : Int} (hi : G[i]? = some (.ow z)) (h : EvX K te G x G) (hz : z.wait.length < sizeLine) (k : At K B S0 (u E) (G.set i (.ow ({ z with wait := z.wait ++ [x] } : Car C)))) : At K B S0 (tSeq (tDrop (tBM K "list" rAppend (tFld K (tVar i) "waiting") (tCons te tNil))) u E) G := fun S σ H F kn => by
  unfold tSeq tDrop tBM
  refine at_w kn hi ?_
  obtain ⟨h1, h2, dx, pv, sv, kf, kb, c⟩ := car_at kn hi
  refine ⟨.inl ⟨rfl, _, SqL.of c.hw⟩, h B S0 S σ H F kn _ fun v S1 H1 e1 k1 r1 => ?_⟩
  obtain ⟨h1, h2, dx, pv, sv, kf, kb, c⟩ := car_at k1 hi
  refine ⟨z.w, _, v, rfl, rfl, c.hw, by rw [List.length_map]; exact hz, k S1 σ _ F (car_upd (dx := dx) (pv := pv) (sv := sv) (kf := kf) (kb := kb) k1 hi ?_ rfl fun q hq => upd_ne (fp_w hq))⟩
  rw [show v = .int x from r1, ← List.map_singleton (f := V.int), ← List.map_append]
  exact c.setW
theorem pop_no {kvs : List (Key × V)} {n : Int} {p : Addr} (h : valV kvs (Sum.inl n) = none) (e : H p = some (.dK kvs)) : upd H p (.dK (dropK kvs (Sum.inl n))) = H := by
  rw [dropK_no (valV_not h)]
  funext q
  by_cases z : q = p
  · rw [z, upd_same, e]
  · rw [upd_ne z]
theorem q_popF {n : Int} (hi : G[i]? = some (.ow z)) (hk : EvX K tb G n G) (k : At K B S0 (u E) (G.set i (.ow ({ z with fresh := z.fresh.del n } : Car C)))) : At K B S0 (tSeq (tDrop (tDPop2 (tFld K (tVar i) "fresh") tb (tC .non))) u E) G := fun S σ H F kn => by
  unfold tSeq tDrop tDPop2
  refine at_f kn hi ?_
  obtain ⟨h1, h2, dx, pv, sv, kf, kb, c⟩ := car_at kn hi
  refine ⟨z.f, rfl, .inl ⟨kf, .inl c.hf⟩, hk B S0 S σ H F kn _ fun w S2 H2 e2 k2 r2 => ?_⟩
  obtain ⟨h1, h2, dx, pv, sv, kf, kb, c⟩ := car_at k2 hi
  rw [show w = .int n from r2]
  have kd := k S2 σ _ F (car_upd k2 hi (c.setF (d := z.fresh.del n) (c.rf.del n)) rfl fun q hq => upd_ne (fp_f hq))
  refine ⟨kf, Sum.inl n, c.hf, rfl, fun v _ => kd, fun hn => ?_⟩
  rw [pop_no hn c.hf] at kd
  exact kd
theorem q_popB {n : Int} (hi : G[i]? = some (.ow z)) (hk : EvX K tb G n G) (k : At K B S0 (u E) (G.set i (.ow ({ z with absent := z.absent.del n } : Car C)))) : At K B S0 (tSeq (tDrop (tDPop2 (tFld K (tVar i) "absent") tb (tC .non))) u E) G := fun S σ H F kn => by
  unfold tSeq tDrop tDPop2
  refine at_b kn hi ?_
  obtain ⟨h1, h2, dx, pv, sv, kf, kb, c⟩ := car_at kn hi
  refine ⟨z.b, rfl, .inl ⟨kb, .inl c.hb⟩, hk B S0 S σ H F kn _ fun w S2 H2 e2 k2 r2 => ?_⟩
  obtain ⟨h1, h2, dx, pv, sv, kf, kb, c⟩ := car_at k2 hi
  rw [show w = .int n from r2]
  have kd := k S2 σ _ F (car_upd k2 hi (c.setB (d := z.absent.del n) (c.rb.del n)) rfl fun q hq => upd_ne (fp_b hq))
  refine ⟨kb, Sum.inl n, c.hb, rfl, fun v _ => kd, fun hn => ?_⟩
  rw [pop_no hn c.hb] at kd
  exact kd
theorem q_pop1B {n : Int} (hi : G[i]? = some (.ow z)) (hk : EvX K tb G n G) (hn : (z.absent.get? n).isSome = true) (k : At K B S0 (u E) (G.set i (.ow ({ z with absent := z.absent.del n } : Car C)))) : At K B S0 (tSeq (tDrop (tDPop1 (tFld K (tVar i) "absent") tb)) u E) G := fun S σ H F kn => by
  unfold tSeq tDrop tDPop1
  refine at_b kn hi ?_
  obtain ⟨h1, h2, dx, pv, sv, kf, kb, c⟩ := car_at kn hi
  refine ⟨z.b, rfl, .inl ⟨kb, .inl c.hb⟩, hk B S0 S σ H F kn _ fun w S2 H2 e2 k2 r2 => ?_⟩
  obtain ⟨h1, h2, dx, pv, sv, kf, kb, c⟩ := car_at k2 hi
  rw [show w = .int n from r2]
  rw [← c.rb.isSome] at hn
  obtain ⟨v, hv⟩ := Option.isSome_iff_exists.mp hn
  exact ⟨kb, Sum.inl n, v, c.hb, rfl, hv, k S2 σ _ F (car_upd k2 hi (c.setB (d := z.absent.del n) (c.rb.del n)) rfl fun q hq => upd_ne (fp_b hq))⟩
theorem q_putF {n : Int} {x : Bool} (h : EvX K te G x G) (hi : G[i]? = some (.ow z)) (hk : EvX K tb G n G) (hz : z.fresh.l.length < sizeLine) (k : At K B S0 (u E) (G.set i (.ow ({ z with fresh := z.fresh.put n x } : Car C)))) : At K B S0 (tSeq (sDPut (tFld K (tVar i) "fresh") tb te) u E) G := fun S σ H F kn =>
  h B S0 S σ H F kn _ fun v S1 H1 e1 k1 r1 => at_f k1 hi (hk B S0 S1 σ H1 F k1 _ fun w S2 H2 e2 k2 r2 => by
    obtain ⟨h1, h2, dx, pv, sv, kf, kb, c⟩ := car_at k2 hi
    rw [show w = .int n from r2]
    exact ⟨z.f, _, rfl, DPut.k (k := Sum.inl n) c.hf (by rw [c.rf.len]; exact hz), k S2 σ _ F (car_upd k2 hi (c.setF (c.rf.put n (Py.mono e2 r1))) rfl fun q hq => upd_ne (fp_f hq))⟩)
theorem q_putB {n : Int} {x : Bool} (h : EvX K te G x G) (hi : G[i]? = some (.ow z)) (hk : EvX K tb G n G) (hz : z.absent.l.length < sizeLine) (k : At K B S0 (u E) (G.set i (.ow ({ z with absent := z.absent.put n x } : Car C)))) : At K B S0 (tSeq (sDPut (tFld K (tVar i) "absent") tb te) u E) G := fun S σ H F kn =>
  h B S0 S σ H F kn _ fun v S1 H1 e1 k1 r1 => at_b k1 hi (hk B S0 S1 σ H1 F k1 _ fun w S2 H2 e2 k2 r2 => by
    obtain ⟨h1, h2, dx, pv, sv, kf, kb, c⟩ := car_at k2 hi
    rw [show w = .int n from r2]
    exact ⟨z.b, _, rfl, DPut.k (k := Sum.inl n) c.hb (by rw [c.rb.len]; exact hz), k S2 σ _ F (car_upd k2 hi (c.setB (c.rb.put n (Py.mono e2 r1))) rfl fun q hq => upd_ne (fp_b hq))⟩)
theorem el_said (hi : G[i]? = some (.ow z)) : EvL K (tCB (rListS K) (tCons (tFld K (tVar i) "spoken") tNil)) G z.said G := fun B S0 S σ H F k Q q => at_s k hi (by
  obtain ⟨h1, h2, dx, pv, sv, kf, kb, c⟩ := car_at k hi
  exact ⟨z.s, _, rfl, .inl (SqL.of c.hs), fun l hl => mk_list k hl (RepL.of_ints _) fun p vs S2 H2 e2 k2 a b c d r => q p vs S2 H2 e2 k2 a b c d r⟩)
/-! a call that reads what waits -/
theorem ev_callW {β : Type} [Py β] [NoL β] {f : Prog × Stand × List Int × Unit → β} {pre : Prog × Stand × List Int × Unit → Prop} {Ex : XK} (hi : G[i]? = some (.ow z)) (hp : pre (z.g, z.st, z.wait, ())) :
    EvX K (tCall (spF K f pre) [] Ex (tCons (tFld K (tVar i) "program") (tCons (tFld K (tVar i) "stand") (tCons (tFld K (tVar i) "waiting") tNil)))) G (f (z.g, z.st, z.wait, ())) G := fun B S0 S σ H F k Q q => by
  obtain ⟨h1, h2, dx, pv, sv, kf, kb, c⟩ := car_at k hi
  have na : ∀ k ∈ carK, NoAttr K C k := c.na
  refine ⟨.ref z.a, h1, z.a, C, dx, _, pv, rfl, c.ob, c.cl, na _ (by decide +kernel), by rw [look_zip (n := 0) (by decide +kernel) (by decide)]; rfl, ?_⟩
  refine ⟨.ref z.a, h1, z.a, C, dx, _, sv, rfl, c.ob, c.cl, na _ (by decide +kernel), by rw [look_zip (n := 1) (by decide +kernel) (by decide)]; rfl, at_w k hi ?_⟩
  show spF K f pre ([pv, sv, .ref z.w] ++ []) H _ Ex
  rw [List.append_nil]
  obtain ⟨hs, hb, _⟩ := k.off i z.w (by rw [h2]; simp [Car.fp])
  have e1 : Same S (upd S z.w (.lst (z.wait.map V.int))) := same_new hs
  refine ⟨upd S z.w (.lst (z.wait.map V.int)), (z.g, z.st, z.wait, ()), fun q o e => ?_, ⟨_, _, rfl, Py.mono e1 c.rg, _, _, rfl, Py.mono e1 c.rs, _, _, rfl, ⟨z.w, _, rfl, upd_same, RepL.of_ints _⟩, rfl⟩, hp, fun w S2 H2 g r2 => ?_⟩
  · by_cases e2 : q = z.w
    · rw [e2, upd_same] at e
      cases e
      rw [e2]
      exact c.hw
    · rw [upd_ne e2] at e
      exact k.sub q o e
  · have gl := g.lent hs
    exact q w (del S2 z.w) H2 gl.s (k.grow gl) (NoL.go (g.s _ _ upd_same) r2)
end
end GL

/-! Methods, makings. -/
namespace GL
open PySem PySem.Spec PyProof.Rows L2
structure MDef (K : Fg) (C : Addr) (m q : Str) (st : Stmt) (ps : List Str) : Prop where
  ex : ∃ (f : Addr) (fd : FuncData), Meth K C m f ∧ Fun K m q st f fd ∧ Binds K fd ps []
structure MCal (P : Program) (w : World) (K : Fg) (mg : Str → Option Value) (base : Heap) (k : Nat) (C : Addr) (m : Str) (ps : List Str) (sp : Sp) : Prop where
  ex : ∃ (f : Addr) (fd : FuncData), Meth K C m f ∧ FnOk P w K mg base CX0 k f fd ps sp ∧ Binds K fd ps []
structure ICal (P : Program) (w : World) (K : Fg) (mg : Str → Option Value) (base : Heap) (k : Nat) (C : Addr) (x : Str) (ps : List Str) (sp : Sp) : Prop where
  ex : ∃ (f : Addr) (fd : FuncData), Mk K C f ∧ mg x = some (.ref C) ∧ FnOk P w K mg base CX0 k f fd ps sp ∧ Binds K fd ps []
theorem pe_mcal {X : Cx} {j k : Nat} {C : Addr} {m : Str} {ps : List Str} {sp : Sp} {o e : Expr} {es : List Expr} {ta : TE} {t : TA} {apos pos : Pos} {pl : Sem Bool} (c : MCal X.prog X.w X.K X.mg X.base k C m ps sp) (cl : Cls X.K C) (hr : Room j X.A) (hk : k ≤ j) (he : PE X o ta) (ha : PA X (e :: es) t)
    (hst : starEach (e :: es) X.env = (false, eval e X.env) :: starEach es X.env := by rfl) (hpl : (backTo pos (starEach es X.env)).any (·.1) = false := by rfl)
    (ht : eval (.Call (.Attribute o m apos) (e :: es) [] pos) X.env = (do
      let ov ← eval o X.env
      standAt apos.atName
      let (f, first) ← holding [ov] (getMethod ov m pl)
      callWith pos f first (backTo pos (starEach (e :: es) X.env)) (backToKw pos (keywordEach [] X.env))) := by rfl) :
    PE X (.Call (.Attribute o m apos) (e :: es) [] pos) (tMeth C m sp [] E0 ta t) := by
  obtain ⟨f, fd, a, b, d⟩ := c.ex
  exact pe_meth (pl := pl) he cl a b (hr.mono hk) d .nil pass0 ha hst hpl ht
theorem pe_mcal0 {X : Cx} {j k : Nat} {C : Addr} {m : Str} {ps : List Str} {sp : Sp} {o : Expr} {ta : TE} {apos pos : Pos} {pl : Sem Bool} (c : MCal X.prog X.w X.K X.mg X.base k C m ps sp) (cl : Cls X.K C) (hr : Room j X.A) (hk : k ≤ j) (he : PE X o ta)
    (ht : eval (.Call (.Attribute o m apos) [] [] pos) X.env = (do
      let ov ← eval o X.env
      standAt apos.atName
      let (f, first) ← holding [ov] (getMethod ov m pl)
      callWith pos f first (backTo pos (starEach [] X.env)) (backToKw pos (keywordEach [] X.env))) := by rfl) :
    PE X (.Call (.Attribute o m apos) [] [] pos) (tMeth C m sp [] E0 ta tNil) := by
  obtain ⟨f, fd, a, b, d⟩ := c.ex
  exact pe_meth0 (pl := pl) he cl a b (hr.mono hk) d .nil pass0 ht
theorem pe_ical {X : Cx} {j k : Nat} {C : Addr} {x : Str} {ps : List Str} {sp : Sp} {e : Expr} {es : List Expr} {t : TA} {p pos : Pos} (c : ICal X.prog X.w X.K X.mg X.base k C x ps sp) (hr : Room j X.A) (hk : k + 1 ≤ j) (hg : Gl X x) (ha : PA X (e :: es) t)
    (hd : (x == ("__debug__" : Str)) = false := by decide) (hs : starEach (e :: es) X.env = (false, eval e X.env) :: starEach es X.env := by rfl) (hpl : (backTo pos (starEach es X.env)).any (·.1) = false := by rfl) :
    PE X (.Call (.Name x p) (e :: es) [] pos) (tMake C sp [] E0 t) := by
  obtain ⟨f, fd, a, b, c, d⟩ := c.ex
  exact pe_make a c (hr.mono hk) hg b d .nil pass0 ha hd hs hpl
theorem Cal.alias {P : Program} {w : World} {K : Fg} {mg : Str → Option Value} {base : Heap} {k : Nat} {x y : Str} {ps : List Str} {sp : Sp} (c : Cal P w K mg base k x ps sp) (h : mg y = mg x) : Cal P w K mg base k y ps sp := by
  obtain ⟨f, fd, a, b, c, d⟩ := c.ex
  exact ⟨f, fd, h.trans a, b, c, d⟩
/-! ### a promise by which an owned thing may come to stand elsewhere -/
def spO {ω α β : Type} [Own ω] [PyA α] [Py β] (K : Fg) (R : ω → α → β → ω → Prop) (pre : ω → α → Prop) : Sp := fun vs H Q _ => ∃ (S : Hp) (v0 : V) (ws : List V) (ps : List Addr) (z : ω) (a : α), vs = v0 :: ws ∧ Same S H ∧ Own.own K S H v0 ps z ∧
  (∀ p ∈ ps, S p = none ∧ ∃ o, H p = some o) ∧ PyA.rep K S ws a ∧ pre z a ∧ ∀ v S' H' ps' y z', R z a y z' → Same S S' → Same S' H' → (∀ p o, p ∉ ps → H p = some o → H' p = some o) → (∀ p o, p ∉ ps → H p = some o → S' p = S p) →
    (∀ p ∈ ps', S' p = none ∧ (∃ o, H' p = some o) ∧ (p ∈ ps ∨ H p = none)) → Own.own K S' H' v0 ps' z' → Py.rep K S' v y → Q v H'
section
variable {K : Fg} {B S0 S1 S S' D : Hp} {σ : L2.St} {H H' : Hp} {F : Nat → List Addr} {G G' G1 G2 : List Sl} {ta te : TE} {i j : Nat} {t : TA} {u : TS} {E : Ends} {Ex : XK}
variable {ω α β : Type} [Own ω] [PyA α] [Py β] {z z' : ω} {a : α}
theorem Kn.moved {S2 H2 : Hp} {v0 : V} {ps' : List Addr} (k1 : Kn K B S0 S1 σ H F G1) (hi1 : G1[i]? = some (.ow z)) (h1 : σ[i]? = some (some v0)) (s1 : Same S1 S2) (s2 : Same S2 H2) (hk : ∀ p o, p ∉ F i → H p = some o → H2 p = some o) (hc : ∀ p o, p ∉ F i → H p = some o → S2 p = S1 p)
    (hl : ∀ p ∈ ps', S2 p = none ∧ (∃ o, H2 p = some o) ∧ (p ∈ F i ∨ H p = none)) (ho : Own.own K S2 H2 v0 ps' z') : Kn K B S0 S2 σ H2 (upF F i ps') (G1.set i (.ow z')) := by
  have hB : ∀ p ∈ ps', B p = none := fun p hp => by
    rcases (hl p hp).2.2 with m | m
    · exact (k1.off i p m).2.1
    · exact (k1.free m).2.1
  have hN : ∀ p ∈ ps', ∀ j, j ≠ i → p ∉ F j := fun p hp j hj m => by
    rcases (hl p hp).2.2 with m' | m'
    · exact hj (k1.dj j i p m m')
    · exact (k1.free m').2.2 j m
  refine ⟨k1.s0.trans s1, s2, fun p o e => ?_, fun p o e => (hc p o (fun m => by rw [(k1.off i p m).2.1] at e; cases e) (k1.keep p o e)).trans (k1.clean p o e), fun j p hp => ?_, fun a b p ha hb => ?_, by rw [List.length_set]; exact k1.len, fun j s e => ?_⟩
  · exact hk p o (fun m => by rw [(k1.off i p m).2.1] at e; cases e) (k1.keep p o e)
  · by_cases c : j = i
    · rw [c, upF_self] at hp
      exact ⟨(hl p hp).1, hB p hp, (hl p hp).2.1⟩
    · rw [upF_ne c] at hp
      obtain ⟨a1, a2, o, a3⟩ := k1.off j p hp
      exact ⟨(hc p o (fun m => c (k1.dj j i p hp m)) a3).trans a1, a2, o, hk p o (fun m => c (k1.dj j i p hp m)) a3⟩
  · by_cases ca : a = i
    · by_cases cb : b = i
      · rw [ca, cb]
      · rw [ca, upF_self] at ha
        rw [upF_ne cb] at hb
        exact absurd hb (hN p ha b cb)
    · rw [upF_ne ca] at ha
      by_cases cb : b = i
      · rw [cb, upF_self] at hb
        exact absurd ha (hN p hb a ca)
      · rw [upF_ne cb] at hb
        exact k1.dj a b p ha hb
  · rcases set_get e with ⟨rfl, rfl⟩ | ⟨ne, e⟩
    · rw [upF_self]
      exact ⟨v0, h1, ho⟩
    · rw [upF_ne ne]
      have w := k1.sl j s e
      cases s with
      | no => exact True.intro
      | im y =>
        obtain ⟨u, b1, b2⟩ := w
        exact ⟨u, b1, Py.mono s1 b2⟩
      | ow y =>
        obtain ⟨u, b1, b2⟩ := w
        refine ⟨u, b1, Own.mono s1 (fun p hp => ?_) b2⟩
        obtain ⟨_, _, o, a3⟩ := k1.off j p hp
        rw [a3]
        exact hk p o (fun m => ne (k1.dj j i p hp m)) a3
end
section
variable {C : Addr} {K : Fg} {B S0 S1 S S' D : Hp} {σ : L2.St} {H H' : Hp} {F : Nat → List Addr} {G G' G1 G2 : List Sl} {ta te : TE} {i j : Nat} {t : TA} {u : TS} {E : Ends} {Ex : XK} {m : Str}
variable {α β : Type} [PyA α] [Py β] {z z1 : Car C} {a : α} {f : Car C → α → β × Car C} {R : Car C → α → β → Car C → Prop} {pre : Car C → α → Prop}
theorem ev_methM (hm : m ∉ carK) (hi : G[i]? = some (.ow z)) (ha : EvA K t G a G1) (hi1 : G1[i]? = some (.ow z1)) (hp : pre z1 a) : EvX K (tMeth C m (spM K f pre) [] Ex (tVar i) t) G (f z1 a).1 (G1.set i (.ow (f z1 a).2)) := fun B S0 S σ H F k Q q => by
  obtain ⟨h1, h2, dx, pv, sv, kf, kb, c⟩ := car_at k hi
  obtain ⟨v, hv, ht⟩ := ev_callM (E := Ex) hi ha hi1 hp B S0 S σ H F k Q q
  rw [h1] at hv
  cases hv
  exact ⟨.ref z.a, h1, z.a, dx, _, rfl, c.ob, look_none hm, ht⟩
theorem q_methO (hm : m ∉ carK) (hi : G[i]? = some (.ow z)) (ha : EvA K t G a G1) (hi1 : G1[i]? = some (.ow z1)) (hp : pre z1 a) (k : ∀ y z', R z1 a y z' → At K B S0 (u E) (G1.set i (.ow z'))) : At K B S0 (tSeq (tDrop (tMeth C m (spO K R pre) [] Ex (tVar i) t)) u E) G := fun S σ H F kn => by
  unfold tSeq tDrop tMeth
  obtain ⟨h1, h2, dx, pv, sv, kf, kb, c⟩ := car_at kn hi
  refine ⟨.ref z.a, h1, z.a, dx, _, rfl, c.ob, look_none hm, ha B S0 S σ H F kn _ fun vs S1 H1 e1 k1 r1 => ?_⟩
  show spO K R pre (.ref z.a :: (vs ++ [])) H1 _ Ex
  rw [List.append_nil]
  obtain ⟨v1, h3, h4⟩ := k1.ow hi1
  rw [h1] at h3
  cases h3
  exact ⟨S1, .ref z.a, vs, F i, z1, a, rfl, k1.sub, h4, fun p hp => ⟨(k1.off i p hp).1, (k1.off i p hp).2.2⟩, r1, hp, fun v S2 H2 ps' y z' hR s1 s2 hk hc hl ho r2 => k y z' hR S2 σ H2 _ (k1.moved hi1 h1 s1 s2 hk hc hl ho)⟩
end
section
variable {P : Program} {w : World} {K : Fg} {mg : Str → Option Value} {base : Heap} {α β : Type} [Sls α] [Py β] {C : Addr}
theorem mdef_spM {x q : Str} {st : Stmt} {N ps : List Str} {k : Nat} {f : Car C → α → β × Car C} {pre : Car C → α → Prop} (D : MDef K C x q st ps) (S : FnScope N ps (defScope st)) (hn : PyA.n α + 1 = ps.length) (hA : ∀ z a, pre z a → Anch.fp (f z a).2 = Anch.fp z)
    (h : ∀ (fa : Addr) (cdv : Value) (A : Around) (outer : List Env) (s : Shared) (H : Hp) (E : XK), Room k (A.deeper (envOfC q (defScope st) s.heap.objs.size fa cdv)) →
      ∃ t, PSs (cxOf CX0 P w K mg base N q (defScope st) fa cdv A outer s H E).nox (defBody st) t ∧
        ∀ (z : Car C) (a : α), pre z a → ∀ (B S0 : Hp) (Q : VK), (∀ (G' : List Sl) y z', G'[0]? = some (.ow z') → (y, z') = f z a → RT K B S0 Q y G') → At K B S0 (t { nx := fun _ H' => Q .non H', rt := Q }) (.ow z :: Sls.sls a ++ List.replicate (N.length - (PyA.n α + 1)) .no)) :
    MCal P w K mg base (k + 1) C x ps (spM K f pre) := by
  obtain ⟨fa, fd, m, Fu, b⟩ := D.ex
  refine ⟨fa, fd, m, Fu.ok S (fun vs H Q E ⟨S, v0, ws, qs, z, a, e, _, _, _, r, _⟩ => by rw [e, List.length_cons, PyA.len r]; exact hn) fun cdv A outer s H vs Q E hr ⟨S', v0, ws, qs, z, a, e, es, ho, hqs, r, hp, q⟩ => ?_, b⟩
  subst e
  obtain ⟨t, h1, h2⟩ := h fa cdv A outer s H E hr
  refine ⟨t, h1, ?_⟩
  have kn := start_knM (N := N) es ho hqs r
  refine h2 z a hp _ S' Q (fun G' y z' hz ey S1 σ1 H1 F1 v k1 r1 => ?_) S' _ H _ kn
  obtain ⟨v1, _, o1⟩ := k1.ow hz
  have e1 : z' = (f z a).2 := by rw [← ey]
  have e2 : y = (f z a).1 := by rw [← ey]
  have ef : (v1, F1 0) = (v0, qs) := (Anch.at_ o1).trans (by rw [e1, hA z a hp]; exact (Anch.at_ ho).symm)
  have ev : v1 = v0 := congrArg Prod.fst ef
  have eF : F1 0 = qs := congrArg Prod.snd ef
  rw [ev, eF] at o1
  subst e1 e2
  refine q v S1 H1 k1.s0 k1.sub (fun p o m e => k1.keep p o (by rw [if_neg m]; exact e)) (fun p o e => ?_) (fun p m => ?_) o1 r1
  · by_cases m : p ∈ qs
    · rw [(k1.off 0 p (by rw [eF]; exact m)).1, (hqs p m).1]
    · exact k1.clean p o (by rw [if_neg m]; exact e)
  · exact (k1.off 0 p (by rw [eF]; exact m)).2.2
theorem mdef_spO {x q : Str} {st : Stmt} {N ps : List Str} {k : Nat} {R : Car C → α → β → Car C → Prop} {pre : Car C → α → Prop} (D : MDef K C x q st ps) (S : FnScope N ps (defScope st)) (hn : PyA.n α + 1 = ps.length)
    (h : ∀ (fa : Addr) (cdv : Value) (A : Around) (outer : List Env) (s : Shared) (H : Hp) (E : XK), Room k (A.deeper (envOfC q (defScope st) s.heap.objs.size fa cdv)) →
      ∃ t, PSs (cxOf CX0 P w K mg base N q (defScope st) fa cdv A outer s H E).nox (defBody st) t ∧
        ∀ (z : Car C) (a : α), pre z a → ∀ (B S0 : Hp) (Q : VK), (∀ (G' : List Sl) y (z' : Car C), G'[0]? = some (.ow z') → z'.a = z.a → R z a y z' → RT K B S0 Q y G') → At K B S0 (t { nx := fun _ H' => Q .non H', rt := Q }) (.ow z :: Sls.sls a ++ List.replicate (N.length - (PyA.n α + 1)) .no)) :
    MCal P w K mg base (k + 1) C x ps (spO K R pre) := by
  obtain ⟨fa, fd, m, Fu, b⟩ := D.ex
  refine ⟨fa, fd, m, Fu.ok S (fun vs H Q E ⟨S, v0, ws, qs, z, a, e, _, _, _, r, _⟩ => by rw [e, List.length_cons, PyA.len r]; exact hn) fun cdv A outer s H vs Q E hr ⟨S', v0, ws, qs, z, a, e, es, ho, hqs, r, hp, q⟩ => ?_, b⟩
  subst e
  obtain ⟨t, h1, h2⟩ := h fa cdv A outer s H E hr
  refine ⟨t, h1, ?_⟩
  have kn := start_knM (N := N) es ho hqs r
  refine h2 z a hp _ S' Q (fun G' y z' hz ea hR S1 σ1 H1 F1 v k1 r1 => ?_) S' _ H _ kn
  obtain ⟨v1, _, o1⟩ := k1.ow hz
  have ev : v1 = v0 := by rw [o1.1, ho.1, ea]
  rw [ev] at o1
  refine q v S1 H1 (F1 0) y z' hR k1.s0 k1.sub (fun p o m e => k1.keep p o (by rw [if_neg m]; exact e)) (fun p o m e => k1.clean p o (by rw [if_neg m]; exact e)) (fun p m => ?_) o1 r1
  obtain ⟨a1, a2, a3⟩ := k1.off 0 p m
  refine ⟨a1, a3, ?_⟩
  by_cases c : p ∈ qs
  · exact .inl c
  · rw [if_neg c] at a2
    exact .inr a2
end
section
variable {C : Addr} {K : Fg} {B S0 S1 S S' D : Hp} {σ : L2.St} {H H' : Hp} {F : Nat → List Addr} {G G' G1 G2 : List Sl} {ta te : TE} {i j : Nat} {t : TA} {u : TS} {E : Ends} {Ex : XK} {m : Str} {z : Car C}
/-- self.fresh = {} -/
theorem q_newF (hi : G[i]? = some (.ow z)) (k : ∀ f' : Addr, At K B S0 (u E) (G.set i (.ow ({ z with f := f', fresh := Dct.emp } : Car C)))) : At K B S0 (tSeq (sFld K (tVar i) tDNewK "fresh") u E) G := fun S σ H F kn => by
  unfold tSeq sFld
  intro p hp
  obtain ⟨h1, h2, dx, pv, sv, kf, kb, c⟩ := car_at kn hi
  have na : z.a ≠ p := ne_of_none c.ob hp
  refine ⟨.ref z.a, h1, z.a, C, dx, _, rfl, by rw [upd_ne na]; exact c.ob, c.cl, c.na _ (by decide +kernel), by show (carK.zip (carV z pv sv)).length < 1000; simp [carK, carV], ?_⟩
  have nw : z.w ≠ p := ne_of_none c.hw hp
  have ns : z.s ≠ p := ne_of_none c.hs hp
  have nb : z.b ≠ p := ne_of_none c.hb hp
  have hH : ∀ q o, q ∉ F i → H q = some o → upd (upd H p (.dK [])) z.a (.ins C dx (putF "fresh" (.ref p) (carK.zip (carV z pv sv)))) q = some o := fun q o hq e => by
    rw [upd_ne (fun z' => hq (by rw [h2, z']; simp [Car.fp])), upd_ne (ne_of_none e hp)]
    exact e
  have c' : CarAt K S (upd (upd H p (.dK [])) z.a (.ins C dx (putF "fresh" (.ref p) (carK.zip (carV z pv sv))))) ({ z with f := p, fresh := Dct.emp } : Car C) dx pv sv [] kb := by
    refine ⟨c.cl, c.na, ?_, c.rg, c.rs, ?_, ?_, ?_, True.intro, ?_, c.rb, c.d1, nb.symm⟩
    · show upd _ z.a _ z.a = _
      rw [upd_same, put_zip (n := 9) (by decide +kernel) (by decide) rfl]
      rfl
    · show upd _ z.a _ z.w = _
      rw [upd_ne c.ne_w, upd_ne nw]; exact c.hw
    · show upd _ z.a _ z.s = _
      rw [upd_ne c.ne_s, upd_ne ns]; exact c.hs
    · show upd _ z.a _ p = _
      rw [upd_ne na.symm, upd_same]
    · show upd _ z.a _ z.b = _
      rw [upd_ne c.ne_b, upd_ne nb]; exact c.hb
  refine k p S σ _ _ (kn.moved (z' := ({ z with f := p, fresh := Dct.emp } : Car C)) (ps' := [z.a, z.w, z.s, p, z.b]) hi h1 (Same.refl _) (fun q o e => ?_) hH (fun _ _ _ _ => rfl) (fun q hq => ?_) ⟨rfl, rfl, dx, pv, sv, [], kb, c'⟩)
  · exact hH q o (fun m => by rw [(kn.off i q m).1] at e; cases e) (kn.sub q o e)
  · have hs : S q = none := by
      simp only [List.mem_cons, List.mem_nil_iff, or_false] at hq
      rcases hq with e | e | e | e | e <;> rw [e]
      · exact (kn.off i _ (by rw [h2]; simp [Car.fp])).1
      · exact (kn.off i _ (by rw [h2]; simp [Car.fp])).1
      · exact (kn.off i _ (by rw [h2]; simp [Car.fp])).1
      · exact (kn.free hp).1
      · exact (kn.off i _ (by rw [h2]; simp [Car.fp])).1
    refine ⟨hs, c'.some (show q ∈ ({ z with f := p, fresh := Dct.emp } : Car C).fp from hq), ?_⟩
    simp only [List.mem_cons, List.mem_nil_iff, or_false] at hq
    rcases hq with e | e | e | e | e
    · left; rw [e, h2]; simp [Car.fp]
    · left; rw [e, h2]; simp [Car.fp]
    · left; rw [e, h2]; simp [Car.fp]
    · right; rw [e]; exact hp
    · left; rw [e, h2]; simp [Car.fp]
/-- self.stand, a, b, c, d = .. -/
theorem q_tick5 {β γ δ ε : Type} [Py β] [Py γ] [Py δ] [Py ε] {w : T5 Stand β γ δ ε} {j1 j2 j3 j4 : Nat} (h : EvX K te G w G1) (hi : G1[i]? = some (.ow z)) (g1 : (G1.set i (.ow ({ z with st := w.a } : Car C)))[j1]?.isSome = true)
    (g2 : ((G1.set i (.ow ({ z with st := w.a } : Car C))).set j1 (.im w.b))[j2]?.isSome = true) (g3 : (((G1.set i (.ow ({ z with st := w.a } : Car C))).set j1 (.im w.b)).set j2 (.im w.c))[j3]?.isSome = true)
    (g4 : ((((G1.set i (.ow ({ z with st := w.a } : Car C))).set j1 (.im w.b)).set j2 (.im w.c)).set j3 (.im w.d))[j4]?.isSome = true)
    (k : ∀ b c d e, b = w.b → c = w.c → d = w.d → e = w.e → At K B S0 (u E) (((((G1.set i (.ow ({ z with st := w.a } : Car C))).set j1 (.im b)).set j2 (.im c)).set j3 (.im d)).set j4 (.im e))) :
    At K B S0 (tSeq (tAsg te (gTup K 5 (gCons (gFld K (tVar i) "stand") (gCons (gName j1) (gCons (gName j2) (gCons (gName j3) (gCons (gName j4) gNil))))))) u E) G := fun S σ H F kn =>
  h B S0 S σ H F kn _ fun v S1 H1 e1 k1 r1 => by
    obtain ⟨p, a, b, c, d, e, rfl, hp, ra, rb, rc, rd, re⟩ := r1
    obtain ⟨h1, h2, dx, pv, sv, kf, kb, ca⟩ := car_at k1 hi
    refine ⟨p, [a, b, c, d, e], rfl, seqT k1.sub hp, rfl, a, [b, c, d, e], rfl, .ref z.a, h1, z.a, C, dx, _, rfl, ca.ob, ca.cl, ca.na _ (by decide +kernel), by show (carK.zip (carV z pv sv)).length < 1000; simp [carK, carV], b, [c, d, e], rfl, c, [d, e], rfl, d, [e], rfl, e, [], rfl, rfl, ?_⟩
    have c' : CarAt K S1 (upd H1 z.a (.ins C dx (putF "stand" a (carK.zip (carV z pv sv))))) ({ z with st := w.a } : Car C) dx pv a kf kb := ca.set (n := 1) (by decide +kernel) (by decide) rfl rfl rfl rfl rfl rfl rfl rfl rfl rfl ca.rg ra
    have k2 := car_upd (z' := ({ z with st := w.a } : Car C)) k1 hi c' rfl fun q hq => upd_ne (fp_a hq)
    exact k _ _ _ _ rfl rfl rfl rfl S1 _ _ F ((((k2.set rb g1).set rc g2).set rd g3).set re g4)
end
/-! ### what a tick tells -/
structure Tw where
  w : Str
  r : List (Option Int)
  deriving DecidableEq
instance : Py Tw := ⟨fun K S v x => ∃ p, v = .ref p ∧ SqT K S p (.str x.w :: x.r.map oV), fun e ⟨p, h1, h2⟩ => ⟨p, h1, seqT e h2⟩⟩
def oD : Option Int → PyData
  | none => .none
  | some x => .int x
theorem dp_os {K : Fg} {H : Hp} : ∀ xs : List (Option Int), DpAll K H (xs.map oV) (xs.map oD)
  | [] => .nil
  | none :: xs => .cons .non (dp_os xs)
  | some x :: xs => .cons (.int x) (dp_os xs)
theorem lay_os : ∀ xs : List (Option Int), PyData.canLayAll0 (xs.map oD) = true
  | [] => rfl
  | none :: xs => by rw [List.map_cons, PyData.canLayAll0, lay_os xs]; rfl
  | some x :: xs => by rw [List.map_cons, PyData.canLayAll0, lay_os xs]; rfl
theorem dep_os : ∀ xs : List (Option Int), PyData.depthAll (xs.map oD) ≤ 0
  | [] => by rw [List.map_nil, PyData.depthAll]; exact Nat.le_refl _
  | none :: xs => by have := dep_os xs; rw [List.map_cons, PyData.depthAll]; simp [oD, PyData.depth]; omega
  | some x :: xs => by have := dep_os xs; rw [List.map_cons, PyData.depthAll]; simp [oD, PyData.depth]; omega
theorem eq_os : ∀ xs ys : List (Option Int), (PyData.eqvAll (xs.map oD) (ys.map oD) = true) ↔ xs = ys
  | [], [] => by simp [PyData.eqvAll]
  | [], _ :: _ => by simp [PyData.eqvAll]
  | _ :: _, [] => by simp [PyData.eqvAll]
  | x :: xs, y :: ys => by
    rw [List.map_cons, List.map_cons, PyData.eqvAll, Bool.and_eq_true, eq_os xs ys, List.cons.injEq]
    refine and_congr ?_ Iff.rfl
    cases x <;> cases y <;> simp [oD, PyData.eqv]
instance (priority := 600) : Dq Tw := ⟨fun x => .tuple (.str x.w :: x.r.map oD), fun x => (PyData.str x.w).canLay0 = true, fun e ⟨p, h1, h2⟩ => by rw [h1]; exact .tup (seqT e h2) (.cons (.str _) (dp_os _)),
  fun x h => by rw [PyData.canLay0, PyData.canLayAll0, h, lay_os]; rfl, 1, fun x => by have := dep_os x.r; rw [PyData.depth, PyData.depthAll]; simp [PyData.depth]; omega, fun x y => by
    obtain ⟨w, r⟩ := x
    obtain ⟨w', r'⟩ := y
    rw [PyData.eqv, PyData.eqvAll, Bool.and_eq_true, eq_os]
    simp [PyData.eqv]⟩
section
variable {K : Fg} {G G1 G2 : List Sl} {ta tb : TE}
theorem ev_tw1 {w : Str} : EvX K (tTup (tCons (tC (.str w)) tNil)) G (Tw.mk w []) G := fun B S0 S σ H F k Q q => ⟨by show 1 ≤ sizeLine; decide, fun p hp => q (.ref p) _ _ (same_new (k.free hp).1) (k.new hp) ⟨p, rfl, SqT.of upd_same⟩⟩
theorem ev_tw2 {x : Str} {y : Option Int} (ha : EvX K ta G x G1) (hb : EvX K tb G1 y G2) : EvX K (tTup (tCons ta (tCons tb tNil))) G (Tw.mk x [y]) G2 := fun B S0 S σ H F k Q q =>
  ha B S0 S σ H F k _ fun v S1 H1 e1 k1 r1 => hb B S0 S1 σ H1 F k1 _ fun v2 S2 H2 e2 k2 r2 => ⟨by show 2 ≤ sizeLine; decide, fun p hp => by
    rw [show v = .str x from r1, oV_rep r2]
    exact q (.ref p) _ _ ((e1.trans e2).trans (same_new (k2.free hp).1)) (k2.new hp) ⟨p, rfl, SqT.of upd_same⟩⟩
theorem ev_twW {x : Tw} (ha : EvX K ta G x G1) : EvX K (tOp (rIxT K) ta (tC (.int 0))) G x.w G1 := fun B S0 S σ H F k Q q =>
  ha B S0 S σ H F k _ fun v S1 H1 e1 k1 r1 => by
    obtain ⟨p, rfl, hp⟩ := r1
    exact ⟨p, _, 0, .str x.w, rfl, rfl, seqT k1.sub hp, atI_nat (j := 0) rfl, q _ S1 H1 e1 k1 rfl⟩
end
end GL

/-! The making of a carried program. -/
namespace GL
open PySem PySem.Spec PyProof.Rows L2
def spCI (K : Fg) (C : Addr) : Sp := fun vs H Q _ => ∃ (S : Hp) (x dx : Addr) (pv sv : V) (g : Prog) (st : Stand) (h : Int), vs = [.ref x, pv, sv, .int h] ∧ H x = some (.ins C dx []) ∧ Py.rep K S pv g ∧ Py.rep K S sv st ∧
  ∀ (w s f b : Addr) (H' : Hp), H w = none → H s = none → H f = none → H b = none → CarAt K S H' (Car.mk (C := C) x w s f b g st h 0 [] [] 0 none false Dct.emp 0 Dct.emp) dx pv sv [] [] → (∀ p o, p ≠ x → H p = some o → H' p = some o) → Q .non H'
section
variable {P : Program} {w : World} {K : Fg} {mg : Str → Option Value} {base : Heap} {C x dx : Addr} {H : Hp} {σ : L2.St} {u : TS} {D : Ends} {tv : TE} {f : Str} {ks : List Str} {vs : List V}
/-- the next field, a value at hand -/
theorem st_put {y : V} (hσ : σ[0]? = some (some (.ref x))) (hx : H x = some (.ins C dx (ks.zip vs))) (cl : Cls K C) (na : NoAttr K C f) (hf : f ∉ ks) (hl : ks.length = vs.length) (hs : ks.length < 900) (hv : ∀ Q : VK, Q y H → tv σ H Q)
    (k : u D σ (upd H x (.ins C dx ((ks ++ [f]).zip (vs ++ [y]))))) : tSeq (sFld K (tVar 0) tv f) u D σ H :=
  hv _ ⟨.ref x, hσ, x, C, dx, _, rfl, hx, cl, na, by rw [List.length_zip]; omega, by rw [put_snoc hf hl]; exact k⟩
/-- the next field, a thing made -/
theorem st_new {o : HO} (hσ : σ[0]? = some (some (.ref x))) (hx : H x = some (.ins C dx (ks.zip vs))) (cl : Cls K C) (na : NoAttr K C f) (hf : f ∉ ks) (hl : ks.length = vs.length) (hs : ks.length < 900) (hv : ∀ Q : VK, (∀ p, H p = none → Q (.ref p) (upd H p o)) → tv σ H Q)
    (k : ∀ p, H p = none → u D σ (upd (upd H p o) x (.ins C dx ((ks ++ [f]).zip (vs ++ [V.ref p]))))) : tSeq (sFld K (tVar 0) tv f) u D σ H :=
  hv _ fun p hp => ⟨.ref x, hσ, x, C, dx, _, rfl, by rw [upd_ne (ne_of_none hx hp)]; exact hx, cl, na, by rw [List.length_zip]; omega, by rw [put_snoc hf hl]; exact k p hp⟩
theorem ok_carinit {st : Stmt} {fa : Addr} {fd : FuncData} {N ps : List Str} {k : Nat} (F : Fun K "__init__" "Carried.__init__" st fa fd) (S : FnScope N ps (defScope st)) (hp : ps.length = 4) (hN : N.length = 4) (cl : Cls K C) (na : ∀ k ∈ carK, NoAttr K C k)
    (h : ∀ (cdv : Value) (A : Around) (outer : List Env) (s : Shared) (H : Hp) (E : XK), Room k (A.deeper (envOfC "Carried.__init__" (defScope st) s.heap.objs.size fa cdv)) →
      PSs (cxOf CX0 P w K mg base N "Carried.__init__" (defScope st) fa cdv A outer s H E).nox (defBody st)
       (tSeq (sFld K (tVar 0) (tVar 1) "program") (tSeq (sFld K (tVar 0) (tVar 2) "stand") (tSeq (sFld K (tVar 0) (tVar 3) "houses") (tSeq (sFld K (tVar 0) (tC (.int 0)) "place") (tSeq (sFld K (tVar 0) (tLst tNil) "waiting") (tSeq (sFld K (tVar 0) (tLst tNil) "spoken") (tSeq (sFld K (tVar 0) (tC (.int 0)) "done")
        (tSeq (sFld K (tVar 0) (tC .non) "goal") (tSeq (sFld K (tVar 0) (tC (.bl false)) "is_still") (tSeq (sFld K (tVar 0) tDNewK "fresh") (tSeq (sFld K (tVar 0) (tC (.int 0)) "made") (tSeq (sFld K (tVar 0) tDNewK "absent") tNext))))))))))))) : FnOk P w K mg base CX0 (k + 1) fa fd ps (spCI K C) := by
  refine F.ok S (fun vs H Q E ⟨_, _, _, _, _, _, _, _, e, _⟩ => by rw [e, hp]; rfl) fun cdv A outer s H vs Q E hr ⟨S', x, dx, pv, sv, g, sd, hh, e, hx, rg, rs, q⟩ => ⟨_, h cdv A outer s H E hr, ?_⟩
  subst e
  have hσ : L2.start N [.ref x, pv, sv, .int hh] = [some (.ref x), some pv, some sv, some (.int hh)] := by
    unfold L2.start
    simp [hN]
  rw [hσ]
  refine st_put (ks := []) (vs := []) (y := pv) rfl hx cl (na _ (by decide +kernel)) (by decide +kernel) rfl (by decide) (fun Q q => ⟨pv, rfl, q⟩) ?_
  refine st_put (y := sv) rfl upd_same cl (na _ (by decide +kernel)) (by decide +kernel) rfl (by decide) (fun Q q => ⟨sv, rfl, q⟩) ?_
  refine st_put (y := .int hh) rfl upd_same cl (na _ (by decide +kernel)) (by decide +kernel) rfl (by decide) (fun Q q => ⟨_, rfl, q⟩) ?_
  refine st_put (y := .int 0) rfl upd_same cl (na _ (by decide +kernel)) (by decide +kernel) rfl (by decide) (fun Q q => q) ?_
  refine st_new (o := .lst []) rfl upd_same cl (na _ (by decide +kernel)) (by decide +kernel) rfl (by decide) (fun Q q => ⟨by decide, q⟩) fun w hw => ?_
  refine st_new (o := .lst []) rfl upd_same cl (na _ (by decide +kernel)) (by decide +kernel) rfl (by decide) (fun Q q => ⟨by decide, q⟩) fun s hs => ?_
  refine st_put (y := .int 0) rfl upd_same cl (na _ (by decide +kernel)) (by decide +kernel) rfl (by decide) (fun Q q => q) ?_
  refine st_put (y := .non) rfl upd_same cl (na _ (by decide +kernel)) (by decide +kernel) rfl (by decide) (fun Q q => q) ?_
  refine st_put (y := .bl false) rfl upd_same cl (na _ (by decide +kernel)) (by decide +kernel) rfl (by decide) (fun Q q => q) ?_
  refine st_new (o := .dK []) rfl upd_same cl (na _ (by decide +kernel)) (by decide +kernel) rfl (by decide) (fun Q q => q) fun f hf => ?_
  refine st_put (y := .int 0) rfl upd_same cl (na _ (by decide +kernel)) (by decide +kernel) rfl (by decide) (fun Q q => q) ?_
  refine st_new (o := .dK []) rfl upd_same cl (na _ (by decide +kernel)) (by decide +kernel) rfl (by decide) (fun Q q => q) fun b hb => ?_
  have nw : w ≠ x := fun e => by rw [e, upd_same] at hw; cases hw
  have ns : s ≠ x := fun e => by rw [e, upd_same] at hs; cases hs
  have nf : f ≠ x := fun e => by rw [e, upd_same] at hf; cases hf
  have nb : b ≠ x := fun e => by rw [e, upd_same] at hb; cases hb
  rw [upd_ne nw, upd_ne nw, upd_ne nw, upd_ne nw] at hw
  rw [upd_ne ns] at hs
  have sw : s ≠ w := fun e => by rw [e, upd_same] at hs; cases hs
  rw [upd_ne sw, upd_ne ns, upd_ne ns, upd_ne ns, upd_ne ns] at hs
  rw [upd_ne nf, upd_ne nf, upd_ne nf, upd_ne nf] at hf
  have fs : f ≠ s := fun e => by rw [e, upd_same] at hf; cases hf
  rw [upd_ne fs, upd_ne nf] at hf
  have fw : f ≠ w := fun e => by rw [e, upd_same] at hf; cases hf
  rw [upd_ne fw, upd_ne nf, upd_ne nf, upd_ne nf, upd_ne nf] at hf
  rw [upd_ne nb, upd_ne nb] at hb
  have bf : b ≠ f := fun e => by rw [e, upd_same] at hb; cases hb
  rw [upd_ne bf, upd_ne nb, upd_ne nb, upd_ne nb, upd_ne nb] at hb
  have bs : b ≠ s := fun e => by rw [e, upd_same] at hb; cases hb
  rw [upd_ne bs, upd_ne nb] at hb
  have bw : b ≠ w := fun e => by rw [e, upd_same] at hb; cases hb
  rw [upd_ne bw, upd_ne nb, upd_ne nb, upd_ne nb, upd_ne nb] at hb
  refine q w s f b _ hw hs hf hb ⟨cl, na, ?_, rg, rs, ?_, ?_, ?_, True.intro, ?_, True.intro, sw.symm, bf.symm⟩ fun p o np e => ?_
  · exact upd_same
  · show upd _ x _ w = _
    simp only [upd_ne nw, upd_ne bw.symm, upd_ne fw.symm, upd_ne sw.symm, upd_same]
    rfl
  · show upd _ x _ s = _
    simp only [upd_ne ns, upd_ne bs.symm, upd_ne fs.symm, upd_same]
    rfl
  · show upd _ x _ f = _
    simp only [upd_ne nf, upd_ne bf.symm, upd_same]
  · show upd _ x _ b = _
    simp only [upd_ne nb, upd_same]
  · simp only [upd_ne np, upd_ne (ne_of_none e hb), upd_ne (ne_of_none e hf), upd_ne (ne_of_none e hs), upd_ne (ne_of_none e hw)]
    exact e
end
section
variable {C : Addr} {K : Fg} {B S0 S1 S S' D : Hp} {σ : L2.St} {H H' : Hp} {F : Nat → List Addr} {G G' G1 G2 : List Sl} {i : Nat} {t : TA} {u : TS} {E : Ends} {Ex : XK}
theorem q_makeC (i : Nat) {g : Prog} {st : Stand} {h : Int} (ha : EvA K t G (g, st, h, ()) G1) (hi : G1[i]?.isSome = true) (k : ∀ z : Car C, (∃ a w s f b, z = Car.mk a w s f b g st h 0 [] [] 0 none false Dct.emp 0 Dct.emp) → At K B S0 (u E) (G1.set i (.ow z))) :
    At K B S0 (tSeq (tAsg (tMake C (spCI K C) [] Ex t) (gName i)) u E) G := fun S σ H F kn =>
  ha B S0 S σ H F kn _ fun vs S1 H1 e1 k1 r1 => by
    intro x dx hx hdx nx
    obtain ⟨pv, ws, rfl, rg, sv, ws', rfl, rs, hv, ws'', rfl, rh, rfl⟩ := r1
    rw [show hv = .int h from rh]
    have hH : ∀ p o, H1 p = some o → upd (upd H1 dx (.own x)) x (.ins C dx []) p = some o := fun p o e => by
      rw [upd_ne (ne_of_none e hx), upd_ne (ne_of_none e hdx)]
      exact e
    have back : ∀ p, upd (upd H1 dx (.own x)) x (.ins C dx []) p = none → H1 p = none := fun p e => by
      cases c : H1 p with
      | none => rfl
      | some o => rw [hH p o c] at e; cases e
    refine ⟨S1, x, dx, pv, sv, g, st, h, rfl, upd_same, rg, rs, fun w s f b H' nw ns nf nb c kp => ⟨rfl, ?_⟩⟩
    have hH' : ∀ p o, H1 p = some o → H' p = some o := fun p o e => kp p o (ne_of_none e hx) (hH p o e)
    have gr : Grow S1 H1 S1 H' := ⟨Same.refl _, fun p o e => hH' p o (k1.sub p o e), hH', fun _ _ _ => rfl⟩
    refine k _ ⟨x, w, s, f, b, rfl⟩ S1 _ H' _ ((k1.grow gr).setOwns (v := .ref x) (x := Car.mk (C := C) x w s f b g st h 0 [] [] 0 none false Dct.emp 0 Dct.emp) (ps := [x, w, s, f, b]) ⟨rfl, rfl, dx, pv, sv, [], [], c⟩ hi fun p hp => ?_)
    have hn : H1 p = none := by
      simp only [List.mem_cons, List.mem_nil_iff, or_false] at hp
      rcases hp with e | e | e | e | e <;> rw [e]
      · exact hx
      · exact back _ nw
      · exact back _ ns
      · exact back _ nf
      · exact back _ nb
    obtain ⟨a1, a2, a3⟩ := k1.free hn
    exact ⟨a1, a2, c.some hp, a3⟩
end
end GL

/-! Defs that tell a new carried program; methods of one that is held by no name. -/
namespace GL
open PySem PySem.Spec PyProof.Rows L2
def spCR {α : Type} [PyA α] (K : Fg) (C : Addr) (R : α → Car C → Prop) (pre : α → Prop) : Sp := fun vs H Q _ => ∃ (S : Hp) (a : α), Same S H ∧ PyA.rep K S vs a ∧ pre a ∧
  ∀ (z : Car C) S' H', R a z → Grow S H S' H' → (∀ p ∈ z.fp, H p = none ∧ S' p = none) → Own.own K S' H' (.ref z.a) z.fp z → Q (.ref z.a) H'
section
variable {P : Program} {w : World} {K : Fg} {mg : Str → Option Value} {base : Heap} {α : Type} [Sls α] {C : Addr}
theorem def_spCR {x : Str} {st : Stmt} {N ps : List Str} {k : Nat} {R : α → Car C → Prop} {pre : α → Prop} (D : Def K mg x st ps) (S : FnScope N ps (defScope st)) (hn : PyA.n α = ps.length)
    (h : ∀ (fa : Addr) (cdv : Value) (A : Around) (outer : List Env) (s : Shared) (H : Hp) (E : XK), Room k (A.deeper (envOfC x (defScope st) s.heap.objs.size fa cdv)) →
      ∃ t, PSs (cxOf CX0 P w K mg base N x (defScope st) fa cdv A outer s H E).nox (defBody st) t ∧
        ∀ (a : α), pre a → ∀ (B S0 : Hp) (Q : VK), (∀ (G' : List Sl) (z : Car C) (j : Nat), G'[j]? = some (.ow z) → R a z → ∀ S σ H F, Kn K B S0 S σ H F G' → Q (.ref z.a) H) → At K B S0 (t { nx := fun _ H' => Q .non H', rt := Q }) (Sls.sls a ++ List.replicate (N.length - PyA.n α) .no)) :
    Cal P w K mg base (k + 1) x ps (spCR K C R pre) := by
  obtain ⟨fa, fd, m, F, b⟩ := D.ex
  refine ⟨fa, fd, m, F.ok S (fun vs H Q E ⟨S, a, _, r, _⟩ => (PyA.len r).trans hn) fun cdv A outer s H vs Q E hr ⟨S', a, e, r, hp, q⟩ => ?_, F.kp, b⟩
  obtain ⟨t, h1, h2⟩ := h fa cdv A outer s H E hr
  refine ⟨t, h1, h2 a hp H S' Q (fun G' z j hj hR S1 σ1 H1 F1 k1 => ?_) S' _ H _ (start_kn e r)⟩
  obtain ⟨q1, q2, dx, pv, sv, kf, kb, c⟩ := car_at k1 hj
  refine q z S1 H1 hR ⟨k1.s0, k1.sub, k1.keep, k1.clean⟩ (fun p m => ?_) ⟨rfl, rfl, dx, pv, sv, kf, kb, c⟩
  obtain ⟨a1, a2, _⟩ := k1.off j p (by rw [q2]; exact m)
  exact ⟨a2, a1⟩
end
section
variable {C : Addr} {K : Fg} {B S0 S1 S S' D : Hp} {σ : L2.St} {H H' : Hp} {F : Nat → List Addr} {G G' G1 G2 : List Sl} {i j : Nat} {t : TA} {u : TS} {E : Ends} {Ex Ex' : XK} {m : Str}
variable {α β : Type} [PyA α] [Py β] {a : α} {R : α → Car C → Prop} {pre' : α → Prop} {f : Car C → Unit → β × Car C} {pre : Car C → Unit → Prop} {z : Car C}
theorem q_retC (hj : G[j]? = some (.ow z)) (k : ∀ S σ H F, Kn K B S0 S σ H F G → E.rt (.ref z.a) H) : At K B S0 (tSeq (tRet (tVar j)) u E) G := fun S σ H F kn => by
  obtain ⟨h1, _⟩ := car_at kn hj
  exact ⟨.ref z.a, h1, k S σ H F kn⟩
theorem q_newC (i : Nat) (ha : EvA K t G a G1) (hp : pre' a) (hi : G1[i]?.isSome = true) (k : ∀ z : Car C, R a z → At K B S0 (u E) (G1.set i (.ow z))) : At K B S0 (tSeq (tAsg (tCall (spCR K C R pre') [] Ex t) (gName i)) u E) G := fun S σ H F kn =>
  ha B S0 S σ H F kn _ fun vs S1 H1 e1 k1 r1 => by
    show spCR K C R pre' (vs ++ []) H1 _ Ex
    rw [List.append_nil]
    refine ⟨S1, a, k1.sub, r1, hp, fun z S2 H2 hR g hn ho => k z hR S2 _ H2 _ ((k1.grow g).setOwns (v := .ref z.a) (x := z) (ps := z.fp) ho hi fun p hp => ?_)⟩
    obtain ⟨a1, a2, a3⟩ := k1.free (hn p hp).1
    obtain ⟨_, _, dx, pv, sv, kf, kb, c⟩ := ho
    exact ⟨(hn p hp).2, a2, c.some hp, a3⟩
/-- f(..).m(), the value told whatever the new one is -/
theorem ev_tmpM {y : β} (hm : m ∉ carK) (ha : EvA K t G a G1) (hp : pre' a) (hz : ∀ z : Car C, R a z → pre z () ∧ (f z ()).1 = y) : EvX K (tMeth C m (spM K f pre) [] Ex (tCall (spCR K C R pre') [] Ex' t) tNil) G y G1 := fun B S0 S σ H F k Q q =>
  ha B S0 S σ H F k _ fun vs S1 H1 e1 k1 r1 => by
    show spCR K C R pre' (vs ++ []) H1 _ Ex'
    rw [List.append_nil]
    refine ⟨S1, a, k1.sub, r1, hp, fun z S2 H2 hR g hn ho => ?_⟩
    obtain ⟨hz1, hz2⟩ := hz z hR
    obtain ⟨_, _, dx, pv, sv, kf, kb, c⟩ := id ho
    refine ⟨z.a, dx, _, rfl, c.ob, look_none hm, ?_⟩
    show spM K f pre (.ref z.a :: ([] ++ [])) H2 Q Ex
    refine ⟨S2, .ref z.a, [], z.fp, z, (), rfl, g.sub, ho, fun p hp => ⟨(hn p hp).2, c.some hp⟩, rfl, hz1, fun v S3 H3 s1 s2 hk hc hl ho' r2 => ?_⟩
    have hfp : ∀ p o, H1 p = some o → p ∉ z.fp := fun p o e hp => by rw [(hn p hp).1] at e; cases e
    have g3 : Grow S1 H1 S3 H3 := ⟨g.s.trans s1, s2, fun p o e => hk p o (hfp p o e) (g.h p o e), fun p o e => (hc p o (g.h p o e)).trans (g.cl p o e)⟩
    exact q v S3 H3 (e1.trans g3.s) (k1.grow g3) (by rw [← hz2]; exact r2)
end
end GL

/-! Data of any shape, looked at. -/
namespace GL
open PySem PySem.Spec PyProof.Rows L2
instance : Inhabited Dat := ⟨.non⟩
namespace Dat
def isT : Dat → Bool
  | .tup _ => true
  | _ => false
def isL : Dat → Bool
  | .lst _ => true
  | _ => false
def isS : Dat → Bool
  | .str _ => true
  | _ => false
def isBl : Dat → Bool
  | .bl _ => true
  | _ => false
def isI : Dat → Bool
  | .int _ => true
  | .bl _ => true
  | _ => false
def isInt : Dat → Bool
  | .int _ => true
  | _ => false
def toI : Dat → Int
  | .int i => i
  | _ => 0
def items : Dat → List Dat
  | .tup l => l
  | .lst l => l
  | _ => []
end Dat
theorem isInt_of {d : Dat} (h1 : d.isI = true) (h2 : (!d.isBl) = true) : d.isInt = true := by
  cases d <;> first | rfl | exact absurd h1 Bool.false_ne_true | exact absurd h2 Bool.false_ne_true
theorem drep_ints {K : Fg} {S : Hp} : ∀ l : List Int, DRepL K S (l.map V.int) (l.map Dat.int)
  | [] => .nil
  | _ :: l => .cons (.int _) (drep_ints l)
section
variable {K : Fg} {G G1 : List Sl} {ta te : TE}
theorem ev_isTD {d : Dat} (ha : EvX K ta G d G1) : EvX K (tCB (rIsi K) (tCons ta (tCons (tC (.ty "tuple")) tNil))) G d.isT G1 := ev_isiD ha (by cases d <;> (first | rfl | decide +kernel))
theorem ev_isLD {d : Dat} (ha : EvX K ta G d G1) : EvX K (tCB (rIsi K) (tCons ta (tCons (tC (.ty "list")) tNil))) G d.isL G1 := ev_isiD ha (by cases d <;> (first | rfl | decide +kernel))
theorem ev_isSD {d : Dat} (ha : EvX K ta G d G1) : EvX K (tCB (rIsi K) (tCons ta (tCons (tC (.ty "str")) tNil))) G d.isS G1 := ev_isiD ha (by cases d <;> (first | rfl | decide +kernel))
theorem ev_isBD {d : Dat} (ha : EvX K ta G d G1) : EvX K (tCB (rIsi K) (tCons ta (tCons (tC (.ty "bool")) tNil))) G d.isBl G1 := ev_isiD ha (by cases d <;> (first | rfl | decide +kernel))
theorem ev_isID {d : Dat} (ha : EvX K ta G d G1) : EvX K (tCB (rIsi K) (tCons ta (tCons (tC (.ty "int")) tNil))) G d.isI G1 := ev_isiD ha (by cases d <;> (first | rfl | decide +kernel))
theorem EvX.asI {d : Dat} (h : EvX K te G d G1) (hd : d.isInt = true) : EvX K te G d.toI G1 := by
  cases d with
  | int i => exact h.unI
  | _ => exact absurd hd Bool.false_ne_true
theorem EvX.asT {d : Dat} (h : EvX K te G d G1) (hd : d.isT = true) : EvX K te G (Tp.mk d.items) G1 := by
  cases d with
  | tup l => exact h.unT
  | _ => exact absurd hd Bool.false_ne_true
theorem EvX.tpD {xs : Tp Int} (h : EvX K te G xs G1) : EvX K te G (Tp.mk (xs.l.map Dat.int)) G1 := fun B S0 S σ H F k Q q => h B S0 S σ H F k Q fun v S' H' e k' r => q v S' H' e k' (by
  obtain ⟨p, vs, h1, h2, h3⟩ := r
  exact ⟨p, vs, h1, h2, (RepL.toD h3).rep⟩)
instance : ToD WRow := ⟨fun r => .tup (.str r.word :: r.nums.map .int), fun ⟨p, h1, h2⟩ => by
  rw [h1]
  exact .tup h2 (.cons (.str _) (drep_ints _))⟩
instance {α β : Type} [Py α] [Py β] [ToD α] [ToD β] : ToD (H2 α β) := ⟨fun x => .lst [ToD.dat x.a, ToD.dat x.b], fun ⟨p, a, b, h1, h2, h3, h4⟩ => by rw [h1]; exact .lst h2 (.cons (ToD.of h3) (.cons (ToD.of h4) .nil))⟩
end
/-! what a stand is -/
def btwD (d : Dat) (lo hi : Int) : Bool := d.isInt && (decide (lo ≤ d.toI) && decide (d.toI ≤ hi))
theorem btw_ret {d : Dat} {lo hi : Int} : (d.isI && (!d.isBl && (decide (lo ≤ d.toI) && decide (d.toI ≤ hi)))) = btwD d lo hi := by
  unfold btwD
  cases d <;> rfl
theorem part_ret {d : Dat} {many : Int} : (d.isI && (!d.isBl && (decide (0 ≤ d.toI) && decide (d.toI < many)))) = btwD d 0 (many - 1) := by
  unfold btwD
  have : decide (d.toI < many) = decide (d.toI ≤ many - 1) := by
    apply decide_eq_decide.mpr
    omega
  rw [this]
  cases d <;> rfl
def standD (n w m : Int) (d : Dat) : Bool := d.isT && (decide (d.items.length = 2) && (btwD (ix d.items 0) 0 m && ((ix d.items 1).isT && (decide (((ix d.items 1).items.length : Int) = n) && (ix d.items 1).items.all fun x => btwD x 0 (w - 1)))))
theorem stand_no1 {n w m : Int} {d : Dat} (h : (!d.isT || (!decide ((d.items.length : Int) = 2) || !btwD (ix d.items 0) 0 m)) = true) : false = standD n w m d := by
  unfold standD
  have e : decide ((d.items.length : Int) = 2) = decide (d.items.length = 2) := decide_eq_decide.mpr (by omega)
  rw [e] at h
  revert h
  generalize d.isT = x1
  generalize decide (d.items.length = 2) = x2
  generalize btwD (ix d.items 0) 0 m = x3
  cases x1 <;> cases x2 <;> cases x3 <;> intro h <;> first | rfl | cases h
theorem stand_yes1 {m : Int} {d : Dat} (h : (!d.isT || (!decide ((d.items.length : Int) = 2) || !btwD (ix d.items 0) 0 m)) = false) : d.isT = true ∧ d.items.length = 2 ∧ btwD (ix d.items 0) 0 m = true := by
  have e : decide ((d.items.length : Int) = 2) = decide (d.items.length = 2) := decide_eq_decide.mpr (by omega)
  rw [e] at h
  obtain ⟨h1, h2⟩ := Bool.or_eq_false_iff.mp h
  obtain ⟨h3, h4⟩ := Bool.or_eq_false_iff.mp h2
  exact ⟨by simpa using h1, by simpa using h3, by simpa using h4⟩
theorem stand_no2 {n w m : Int} {d : Dat} (h : (!(ix d.items 1).isT || !decide (((ix d.items 1).items.length : Int) = n)) = true) : false = standD n w m d := by
  unfold standD
  revert h
  generalize d.isT = x1
  generalize decide (d.items.length = 2) = x2
  generalize btwD (ix d.items 0) 0 m = x3
  generalize (ix d.items 1).isT = x4
  generalize decide (((ix d.items 1).items.length : Int) = n) = x5
  cases x1 <;> cases x2 <;> cases x3 <;> cases x4 <;> cases x5 <;> intro h <;> first | rfl | cases h
theorem stand_end {n w m : Int} {d : Dat} {b : Bool} (h1 : d.isT = true ∧ d.items.length = 2 ∧ btwD (ix d.items 0) 0 m = true) (h2 : (!(ix d.items 1).isT || !decide (((ix d.items 1).items.length : Int) = n)) = false) (hb : b = (ix d.items 1).items.all fun x => btwD x 0 (w - 1)) : b = standD n w m d := by
  obtain ⟨a1, a2, a3⟩ := h1
  obtain ⟨a4, a5⟩ := Bool.or_eq_false_iff.mp h2
  have a4 : (ix d.items 1).isT = true := by simpa using a4
  have a5 : decide (((ix d.items 1).items.length : Int) = n) = true := by simpa using a5
  unfold standD
  rw [a1, decide_eq_true a2, a3, a4, a5, hb]
  rfl
theorem dle_items {k : Nat} {d : Dat} (h : DLe (k + 1) d) : d.items.length ≤ 1000000 ∧ ∀ x ∈ d.items, DLe k x := by
  cases h with
  | tup a b => exact ⟨a, b⟩
  | lst a b => exact ⟨a, b⟩
  | _ => exact ⟨Nat.zero_le _, fun x hx => nomatch hx⟩
theorem dle_up : ∀ {k : Nat} {d : Dat}, DLe k d → DLe (k + 1) d
  | _, _, .non => .non
  | _, _, .int => .int
  | _, _, .bl => .bl
  | _, _, .str => .str
  | _, _, .tup a b => .tup a fun x hx => dle_up (b x hx)
  | _, _, .lst a b => .lst a fun x hx => dle_up (b x hx)
end GL

namespace GL
open PySem PySem.Spec PyProof.Rows L2
/-! ### a tick keeps stands stands; its told thing is small data -/
def LetOk (g : Prog) (l : List Int) : Prop := ∀ x ∈ l, 0 ≤ x ∧ x < g.b
theorem with_ok {g : Prog} {s : Tp Int} {p v : Int} (hl : (s.l.length : Int) = g.a) (hn : ∀ x ∈ s.l, 0 ≤ x ∧ x < g.b) (hp : 0 ≤ p ∧ p < g.a) (hv : 0 ≤ v ∧ v < g.b) : ((withM s p v).l.length : Int) = g.a ∧ ∀ x ∈ (withM s p v).l, 0 ≤ x ∧ x < g.b := by
  rw [with_set (by omega)]
  refine ⟨by dsimp only; rw [List.length_set]; exact hl, fun x hx => ?_⟩
  rcases List.mem_or_eq_of_mem_set hx with h | h
  · exact hn x h
  · rw [h]; exact hv
theorem tick_cases (P : TickR → Prop) {g : Prog} {s : Stand} {letters : List Int} (h1 : rowAtM g s = none → P ⟨s, Str.ofString "ended", none, ⟨[]⟩, ⟨[]⟩⟩) (h2 : ∀ p, rowAtM g s = some (.take p) → letters = [] → P ⟨s, Str.ofString "waits", none, ⟨[]⟩, ⟨[]⟩⟩) (h3 : ∀ r, rowAtM g s = some r → (r.isTake = true → letters ≠ []) → P (doneM g s r letters)) : P (tickM g s letters) := by
  unfold tickM
  cases e : rowAtM g s with
  | none => exact h1 e
  | some r =>
    dsimp only
    split
    · rename_i hc
      obtain ⟨c1, c2⟩ := Bool.and_eq_true_iff.mp hc
      cases r <;> first | exact absurd c1 Bool.false_ne_true | exact h2 _ e (of_decide_eq_true c2)
    · rename_i hc
      exact h3 r e fun ht hl => hc (by rw [ht, hl]; rfl)
theorem tick_ok {g : Prog} {s : Stand} {letters : List Int} (hg : ProgOk g) (hs : StandOk g s) (hl : LetOk g letters) : StandOk g (tickM g s letters).a := by
  refine tick_cases (fun t => StandOk g t.a) (fun _ => hs) (fun _ _ _ => hs) fun r hr ht => ?_
  obtain ⟨h1, h2, h3, h4⟩ := tick_row hg hs hr
  have ha := hs.a0
  have hw := hg.w0
  have key : (0 ≤ dGo s.1 s.2 r ∧ dGo s.1 s.2 r ≤ g.c.l.length) ∧ ((dSh g.b s.2 letters r).l.length : Int) = g.a ∧ ∀ x ∈ (dSh g.b s.2 letters r).l, 0 ≤ x ∧ x < g.b := by
    cases r with
    | set p v => exact ⟨by dsimp only [dGo]; omega, with_ok hs.len hs.nums h4.1 h4.2⟩
    | add p q => exact ⟨by dsimp only [dGo]; omega, with_ok hs.len hs.nums h4.1 ⟨Int.emod_nonneg _ (by omega), Int.emod_lt_of_pos _ (by omega)⟩⟩
    | jump p q =>
      refine ⟨?_, hs.len, hs.nums⟩
      have := h4.2
      dsimp only [dGo]
      split <;> omega
    | say p => exact ⟨by dsimp only [dGo]; omega, hs.len, hs.nums⟩
    | take p =>
      refine ⟨by dsimp only [dGo]; omega, with_ok hs.len hs.nums h4 (hl _ (ix_mem (by decide) ?_))⟩
      have := List.length_pos_iff.mpr (ht rfl)
      omega
    | fin => exact absurd rfl h3
  exact ⟨key.1.1, key.1.2, key.2.1, key.2.2⟩
theorem reads_len (r : WRow) : (readsM r).l.length ≤ 2 := by
  cases r with
  | add p q =>
    show (usrt [p, q]).length ≤ 2
    rw [usrt_two]
    by_cases e : p = q
    · rw [decide_eq_true e, if_pos rfl]; show 1 ≤ 2; decide
    · rw [decide_eq_false e, if_neg (by decide)]; show 2 ≤ 2; decide
  | _ => simp [readsM]
theorem writes_len (r : WRow) : (writesM r).l.length ≤ 1 := by cases r <;> simp [writesM]
theorem dle_tp (k : Nat) {x : Tp Int} (h : x.l.length ≤ 1000000) : DLe (k + 1) (ToD.dat x) := .tup (by rw [List.length_map]; exact h) (dle_ints k _)
theorem dle_opt (k : Nat) (x : Option Int) : DLe k (ToD.dat x) := by cases x with
  | none => exact .non
  | some y => exact .int
theorem dle_stand (k : Nat) {g : Prog} {s : Stand} (hg : ProgOk g) (hs : StandOk g s) : DLe (k + 2) (ToD.dat s) := by
  refine .tup (by simp) fun y hy => ?_
  rcases List.mem_cons.mp hy with e | e
  · rw [e]; exact .int
  · rw [List.mem_singleton.mp e]
    have := hs.len
    have := hg.n1
    exact dle_tp k (by omega)
theorem dle_t5 (k : Nat) {g : Prog} {x : TickR} (hg : ProgOk g) (hs : StandOk g x.a) (h1 : x.d.l.length ≤ 2) (h2 : x.e.l.length ≤ 1) : DLe (k + 3) (ToD.dat x) := by
  refine .tup (by simp) fun y hy => ?_
  simp only [List.mem_cons, List.mem_nil_iff, or_false] at hy
  rcases hy with e | e | e | e | e <;> rw [e]
  · exact dle_stand k hg hs
  · exact .str
  · exact dle_opt _ _
  · exact dle_tp (k + 1) (by omega)
  · exact dle_tp (k + 1) (by omega)
theorem tick_rl {g : Prog} {s : Stand} {letters : List Int} : (tickM g s letters).d.l.length ≤ 2 ∧ (tickM g s letters).e.l.length ≤ 1 :=
  tick_cases (fun t => t.d.l.length ≤ 2 ∧ t.e.l.length ≤ 1) (fun _ => by simp) (fun _ _ _ => by simp) fun r _ _ => ⟨reads_len r, writes_len r⟩
theorem dat_tick {g : Prog} {s : Stand} {letters : List Int} (hg : ProgOk g) (hs : StandOk g s) (hl : LetOk g letters) : DLe 4 (ToD.dat (tickM g s letters)) :=
  dle_t5 1 hg (tick_ok hg hs hl) tick_rl.1 tick_rl.2
theorem let_ok {g : Prog} {z : Pen} {many : Int} (h : 0 < g.b) : LetOk g (mapX (fun st (_ : Int) => (penTake st g.b).1) (fun st _ => (penTake st g.b).2) (rng 0 many) z).1 :=
  mapX_all (fun x => 0 ≤ x ∧ x < g.b) (fun st _ => pen_bd st h) _ _
end GL

namespace GL
open PySem PySem.Spec PyProof.Rows L2
variable {C : Addr}
/-! ### a carried program's calls -/
structure CarOk (z : Car C) : Prop where
  g : ProgOk z.g
  s : StandOk z.g z.st
  l : LetOk z.g z.wait
  wl : z.wait.length ≤ 100000
  sl : z.said.length ≤ 100000
def lksM (z : Car C) : List Int := match rowAtM z.g z.st with
  | none => []
  | some r => (readsM r).l.filter fun p => (z.absent.get? p).isSome
def wentM (z : Car C) (t : TickR) : Car C := { z with st := t.a, wait := if decide (t.b = Str.ofString "took") = true then z.wait.drop 1 else z.wait, said := if decide (t.b = Str.ofString "said") = true then z.said ++ [t.c.getD default] else z.said, fresh := t.e.l.foldl Dct.del z.fresh, absent := t.e.l.foldl Dct.del z.absent, done := z.done + 1 }
@[irreducible] def tickC (z : Car C) : Tw × Car C :=
  if z.still = true then (⟨Str.ofString "still", []⟩, z)
  else if lksM z ≠ [] then (⟨Str.ofString "lacks", [some (ix (lksM z) 0)]⟩, z)
  else (⟨(tickM z.g z.st z.wait).b, [(tickM z.g z.st z.wait).c]⟩, wentM z (tickM z.g z.st z.wait))
theorem tickC_fp (z : Car C) : Anch.fp (tickC z).2 = Anch.fp z := by
  unfold tickC
  split
  · rfl
  split
  · rfl
  · rfl
@[irreducible] def lfM (z : Car C) : List Int := (rng 0 z.g.a).filter fun p => !(z.fresh.get? p).isSome
@[irreducible] def copyC (z : Car C) (p : Int) : Car C := { z with fresh := z.fresh.put p true, made := z.made + 1 }
@[irreducible] def letterC (z : Car C) (v : Int) : Car C := { z with wait := z.wait ++ [v] }
@[irreducible] def stillC (z : Car C) : Car C := { z with still := true }
@[irreducible] def goesC (z : Car C) : Car C := { z with place := z.goal.getD default, goal := none, still := false }
@[irreducible] def lackC (z : Car C) (l : List Int) : Car C := { z with absent := l.foldl (fun d p => d.put p true) z.absent }
@[irreducible] def bringC (z : Car C) (p : Int) : Car C := { z with absent := z.absent.del p }
@[irreducible] def dropC (z : Car C) : Car C := { z with goal := none, still := false }
def BegR (z : Car C) (h : Int) (z' : Car C) : Prop := ∃ f', z' = { z with f := f', goal := some h, still := false, fresh := Dct.emp, made := 0 }
theorem copy_fp (z : Car C) (p : Int) : Anch.fp (copyC z p) = Anch.fp z := by unfold copyC; rfl
theorem letter_fp (z : Car C) (p : Int) : Anch.fp (letterC z p) = Anch.fp z := by unfold letterC; rfl
theorem still_fp (z : Car C) : Anch.fp (stillC z) = Anch.fp z := by unfold stillC; rfl
theorem goes_fp (z : Car C) : Anch.fp (goesC z) = Anch.fp z := by unfold goesC; rfl
theorem lack_fp (z : Car C) (l : List Int) : Anch.fp (lackC z l) = Anch.fp z := by unfold lackC; rfl
theorem bring_fp (z : Car C) (p : Int) : Anch.fp (bringC z p) = Anch.fp z := by unfold bringC; rfl
theorem drop_fp (z : Car C) : Anch.fp (dropC z) = Anch.fp z := by unfold dropC; rfl
theorem put_len {d : Dct Bool} {k : Int} {x : Bool} : (d.put k x).l.length ≤ d.l.length + 1 := by
  unfold Dct.put
  dsimp only
  split
  · rw [List.length_map]; omega
  · rw [List.length_append]; exact Nat.le_refl _
theorem del_len {d : Dct Bool} {k : Int} : (d.del k).l.length ≤ d.l.length := List.length_filter_le _ _
theorem puts_len : ∀ (l : List Int) (d : Dct Bool), (l.foldl (fun d p => d.put p true) d).l.length ≤ d.l.length + l.length
  | [], d => Nat.le_refl _
  | p :: l, d => by
    have h1 := puts_len l (d.put p true)
    have h2 := put_len (d := d) (k := p) (x := true)
    rw [List.foldl_cons, List.length_cons]
    omega
theorem took_ne2 {g : Prog} {s : Stand} {letters : List Int} (h : decide ((tickM g s letters).b = Str.ofString "took") = true) : letters ≠ [] := by
  refine tick_cases (fun t => decide (t.b = Str.ofString "took") = true → letters ≠ []) (fun _ h => absurd h (by show ¬ decide (Str.ofString "ended" = Str.ofString "took") = true; decide +kernel)) (fun _ _ _ h => absurd h (by show ¬ decide (Str.ofString "waits" = Str.ofString "took") = true; decide +kernel)) (fun r hr ht h => ?_) h
  cases r with
  | take p => exact ht rfl
  | set p v => exact absurd h (by show ¬ decide (Str.ofString "did" = Str.ofString "took") = true; decide +kernel)
  | add p v => exact absurd h (by show ¬ decide (Str.ofString "did" = Str.ofString "took") = true; decide +kernel)
  | jump p v => exact absurd h (by show ¬ decide (Str.ofString "did" = Str.ofString "took") = true; decide +kernel)
  | say p => exact absurd h (by show ¬ decide (Str.ofString "said" = Str.ofString "took") = true; decide +kernel)
  | fin => exact absurd h (by show ¬ decide (Str.ofString "did" = Str.ofString "took") = true; decide +kernel)
theorem said_some {g : Prog} {s : Stand} {letters : List Int} (h : decide ((tickM g s letters).b = Str.ofString "said") = true) : (tickM g s letters).c.isSome = true := by
  refine tick_cases (fun t => decide (t.b = Str.ofString "said") = true → t.c.isSome = true) (fun _ h => absurd h (by show ¬ decide (Str.ofString "ended" = Str.ofString "said") = true; decide +kernel)) (fun _ _ _ h => absurd h (by show ¬ decide (Str.ofString "waits" = Str.ofString "said") = true; decide +kernel)) (fun r hr ht h => ?_) h
  cases r with
  | say p => rfl
  | set p v => exact absurd h (by show ¬ decide (Str.ofString "did" = Str.ofString "said") = true; decide +kernel)
  | add p v => exact absurd h (by show ¬ decide (Str.ofString "did" = Str.ofString "said") = true; decide +kernel)
  | jump p v => exact absurd h (by show ¬ decide (Str.ofString "did" = Str.ofString "said") = true; decide +kernel)
  | take p => rfl
  | fin => exact absurd h (by show ¬ decide (Str.ofString "did" = Str.ofString "said") = true; decide +kernel)
theorem lks_none {z : Car C} (h : (rowAtM z.g z.st).isSome = false) : lksM z = [] := by
  unfold lksM
  cases e : rowAtM z.g z.st with
  | none => rfl
  | some r => rw [e] at h; cases h
theorem lack_some {z : Car C} {r : WRow} (h : rowAtM z.g z.st = some r) : lksM z = (readsM r).l.filter fun p => (z.absent.get? p).isSome := by
  unfold lksM
  rw [h]
end GL
namespace GL
open PySem PySem.Spec PyProof.Rows L2
variable {C : Addr}
def popBoth (z : Car C) (p : Int) : Car C := { z with fresh := z.fresh.del p, absent := z.absent.del p }
theorem popBoth_fold : ∀ (l : List Int) (z : Car C), l.foldl popBoth z = { z with fresh := l.foldl Dct.del z.fresh, absent := l.foldl Dct.del z.absent }
  | [], z => rfl
  | p :: l, z => by rw [List.foldl_cons, popBoth_fold l]; rfl
theorem lackC_snoc (z : Car C) (l : List Int) (p : Int) : lackC z (l ++ [p]) = { lackC z l with absent := (lackC z l).absent.put p true } := by
  unfold lackC
  rw [List.foldl_append]
  rfl
theorem lackC_len (z : Car C) (l : List Int) : (lackC z l).absent.l.length ≤ z.absent.l.length + l.length := by
  unfold lackC
  exact puts_len l z.absent
theorem clf_len (z : Car C) : (lfM z).length ≤ z.g.a.toNat := by
  unfold lfM
  refine Nat.le_trans (List.length_filter_le _ _) ?_
  rw [len_rng]
  omega
theorem lackC_goal (z : Car C) (l : List Int) : (lackC z l).goal = z.goal ∧ (lackC z l).made = z.made := by unfold lackC; exact ⟨rfl, rfl⟩
theorem tick_end {z : Car C} {z' : Car C} {w : Tw} (h0 : z.still = false) (h1 : lksM z = []) (hw : w = ⟨(tickM z.g z.st z.wait).b, [(tickM z.g z.st z.wait).c]⟩) (hz : z' = wentM z (tickM z.g z.st z.wait)) : (w, z') = tickC z := by
  unfold tickC
  rw [if_neg (by rw [h0]; decide), if_neg (by simp [h1]), hw, hz]
end GL
namespace GL
open PySem PySem.Spec PyProof.Rows L2
variable {C : Addr}
theorem get_os {o : Option WRow} (h : o.isSome = true) : o = some (o.getD default) := by
  cases o with
  | none => cases h
  | some r => rfl
theorem tick_lacks {z : Car C} {l : List Int} (h0 : z.still = false) (h1 : l = lksM z) (h2 : l ≠ []) : ((⟨Str.ofString "lacks", [some (ix l 0)]⟩, z) : Tw × Car C) = tickC z := by
  unfold tickC
  rw [if_neg (by rw [h0]; decide), ← h1, if_pos h2]
end GL
namespace GL
open PySem PySem.Spec PyProof.Rows L2
variable {C : Addr}
theorem went_eq {z z2 z4 z6 z9 : Car C} {t : TickR} (h2 : z2 = { z with st := t.a }) (h4 : z4 = if decide (t.b = Str.ofString "took") = true then ({ z2 with wait := z2.wait.drop 1 } : Car C) else z2) (h6 : z6 = if decide (t.b = Str.ofString "said") = true then ({ z4 with said := z4.said ++ [t.c.getD default] } : Car C) else z4)
    (h9 : z9 = { (t.e.l.foldl popBoth z6) with done := (t.e.l.foldl popBoth z6).done + 1 }) : z9 = wentM z t := by
  rw [h9, popBoth_fold, h6, h4, h2]
  unfold wentM
  generalize decide (t.b = Str.ofString "took") = b1
  generalize decide (t.b = Str.ofString "said") = b2
  cases b1 <;> cases b2 <;> rfl
end GL

namespace GL
open PySem PySem.Spec PyProof.Rows L2
theorem rev_indU {α : Type} {P : List α → Prop} (h0 : P []) (hs : ∀ xs x, P xs → P (xs ++ [x])) (xs : List α) : P xs := by
  have h : ∀ ys : List α, P ys.reverse := fun ys => by
    induction ys with
    | nil => exact h0
    | cons y ys ih => rw [List.reverse_cons]; exact hs _ _ ih
  have := h xs.reverse
  rwa [List.reverse_reverse] at this
theorem ix_get {α : Type} [Inhabited α] {xs : List α} {i : Int} (h0 : 0 ≤ i) (h : i.toNat < xs.length) : ix xs i = xs[i.toNat] := by
  have e := ix_at (xs := xs) h0 (by omega)
  rw [List.getElem?_eq_getElem h] at e
  exact (Option.some.inj e).symm
/-! ### letters and runs -/
abbrev Lets := List (Int × Int)
structure LetsOk (g : Prog) (l : Lets) : Prop where
  srt : (l.map (·.1)).Pairwise (· ≤ ·)
  nums : ∀ x ∈ l, 0 ≤ x.2 ∧ x.2 < g.b
  len : l.length ≤ 1000
def availM (l : Lets) (now : Int) : List Int := (l.filter (fun x => decide (x.1 ≤ now))).map (·.2)
abbrev Said := List (Int × Option Int)
abbrev Tou := List (Tp Int × Tp Int)
abbrev RunS := Int × Stand × Said × Tou
@[irreducible] def runStep (g : Prog) (l : Lets) (st : RunS) (now : Int) : RunS :=
  let t := tickM g st.2.1 ((availM l now).drop st.1.toNat)
  (st.1 + (if decide (t.b = Str.ofString "took") = true then 1 else 0), t.a, if decide (t.b = Str.ofString "said") = true then st.2.2.1 ++ [(now, t.c)] else st.2.2.1, st.2.2.2 ++ [(t.d, t.e)])
@[irreducible] def runF (g : Prog) (s : Stand) (l : Lets) (xs : List Int) : RunS := xs.foldl (runStep g l) (0, s, [], [])
@[irreducible] def runM (g : Prog) (s : Stand) (l : Lets) (many : Int) : T3 Stand Said Tou := ⟨(runF g s l (rng 0 many)).2.1, (runF g s l (rng 0 many)).2.2.1, (runF g s l (rng 0 many)).2.2.2⟩
theorem run_nil (g : Prog) (s : Stand) (l : Lets) : runF g s l [] = (0, s, [], []) := by unfold runF; rfl
theorem run_snoc (g : Prog) (s : Stand) (l : Lets) (xs : List Int) (n : Int) : runF g s l (xs ++ [n]) = runStep g l (runF g s l xs) n := by
  unfold runF; rw [List.foldl_append]; rfl
theorem avail_ok {g : Prog} {l : Lets} (h : LetsOk g l) (now : Int) (u : Nat) : LetOk g ((availM l now).drop u) ∧ ((availM l now).drop u).length ≤ 100000 := by
  refine ⟨fun x hx => ?_, ?_⟩
  · obtain ⟨y, hy, e⟩ := List.mem_map.mp (List.mem_of_mem_drop hx)
    rw [← e]
    exact h.nums y (List.mem_filter.mp hy).1
  · have := h.len
    have := List.length_filter_le (fun x : Int × Int => decide (x.1 ≤ now)) l
    rw [List.length_drop]
    unfold availM
    rw [List.length_map]
    omega
theorem runStep_stand {g : Prog} {l : Lets} {st : RunS} {now : Int} : (runStep g l st now).2.1 = (tickM g st.2.1 ((availM l now).drop st.1.toNat)).a := by unfold runStep; rfl
theorem runStep_used {g : Prog} {l : Lets} {st : RunS} {now : Int} : (runStep g l st now).1 = st.1 + (if decide ((tickM g st.2.1 ((availM l now).drop st.1.toNat)).b = Str.ofString "took") = true then 1 else 0) := by unfold runStep; rfl
theorem run_ok {g : Prog} {s : Stand} {l : Lets} (hg : ProgOk g) (hs : StandOk g s) (hl : LetsOk g l) (xs : List Int) : StandOk g (runF g s l xs).2.1 ∧ 0 ≤ (runF g s l xs).1 := by
  refine rev_indU (P := fun xs => StandOk g (runF g s l xs).2.1 ∧ 0 ≤ (runF g s l xs).1) ?_ (fun xs n ih => ?_) xs
  · rw [run_nil]; exact ⟨hs, Int.le_refl _⟩
  · rw [run_snoc, runStep_stand, runStep_used]
    refine ⟨tick_ok hg ih.1 (avail_ok hl n _).1, ?_⟩
    have := ih.2
    split <;> omega
theorem run_len {g : Prog} {s : Stand} {l : Lets} (xs : List Int) : (runF g s l xs).2.2.2.length = xs.length ∧ (runF g s l xs).2.2.1.length ≤ xs.length := by
  refine rev_indU (P := fun xs => (runF g s l xs).2.2.2.length = xs.length ∧ (runF g s l xs).2.2.1.length ≤ xs.length) ?_ (fun xs n ih => ?_) xs
  · rw [run_nil]; simp
  · rw [run_snoc]
    unfold runStep
    dsimp only
    rw [List.length_append, List.length_append, ih.1]
    refine ⟨rfl, ?_⟩
    have := ih.2
    split
    · rw [List.length_append]; simp; omega
    · simp; omega
theorem cut_drop {α : Type} {l : List α} {u : Int} (h : 0 ≤ u) : cutL l (some u) none = l.drop u.toNat := by
  have e : u = ((u.toNat : Nat) : Int) := by omega
  unfold cutL
  rw [e, HT.sIx_none, HT.sIx_nat, Int.toNat_natCast]
  by_cases hh : u.toNat ≤ l.length
  · rw [Nat.min_eq_left hh, List.take_of_length_le (by rw [List.length_drop]; omega)]
  · rw [Nat.min_eq_right (by omega), List.drop_of_length_le (l := l) (i := u.toNat) (by omega), List.drop_length]; simp
/-- the law's own run, a tick more -/
theorem run_law {g : Prog} {s : Stand} {l : Lets} {pre : List Int} {now used : Int} {stand : Stand} {said : Said} {touched : Tou} {t : TickR} (hI : (used, stand, said, touched) = runF g s l pre) (ht : t = tickM g stand ((availM l now).drop used.toNat)) :
    (used + (if decide (t.b = Str.ofString "took") = true then 1 else 0), t.a, (if decide (t.b = Str.ofString "said") = true then said ++ [(now, t.c)] else said), touched ++ [(t.d, t.e)]) = runF g s l (pre ++ [now]) := by
  rw [run_snoc, ← hI, ht]
  unfold runStep
  rfl
/-! ### the program's run -/
structure WgI (l : Lets) (used now : Int) (st : List Int × Int) : Prop where
  c0 : 0 ≤ st.2
  c1 : st.2 ≤ l.length
  u1 : used ≤ st.2
  w : st.1 = ((l.take st.2.toNat).map (·.2)).drop used.toNat
  le : ∀ x ∈ l.take st.2.toNat, x.1 ≤ now
theorem WgI.step {l : Lets} {used now : Int} {wt : List Int} {come : Int} (hu : 0 ≤ used) (h : WgI l used now (wt, come)) (hc : come < l.length) (hn : (ix l come).1 ≤ now) : WgI l used now (wt ++ [(ix l come).2], come + 1) := by
  obtain ⟨c0, c1, u1, w, le⟩ := h
  dsimp only at *
  have hlt : come.toNat < l.length := by omega
  have e : (come + 1).toNat = come.toNat + 1 := by omega
  have ei : ix l come = l[come.toNat] := ix_get c0 hlt
  have et : l.take (come.toNat + 1) = l.take come.toNat ++ [ix l come] := by rw [ei, List.take_succ_eq_append_getElem hlt]
  refine ⟨by dsimp only; omega, by dsimp only; omega, by dsimp only; omega, ?_, ?_⟩
  · dsimp only
    rw [e, et, List.map_append, List.drop_append_of_le_length (by rw [List.length_map, List.length_take]; omega), ← w]
    rfl
  · dsimp only
    rw [e, et]
    intro x hx
    rcases List.mem_append.mp hx with q | q
    · exact le x q
    · rw [List.mem_singleton.mp q]; exact hn
theorem filter_take {l : Lets} {now : Int} {k : Nat} (hs : (l.map (·.1)).Pairwise (· ≤ ·)) (h1 : ∀ x ∈ l.take k, x.1 ≤ now) (h2 : ∀ x, l[k]? = some x → now < x.1) : l.filter (fun x => decide (x.1 ≤ now)) = l.take k := by
  induction l generalizing k with
  | nil => simp
  | cons y l ih =>
    rw [List.map_cons, List.pairwise_cons] at hs
    cases k with
    | zero =>
      have h := h2 y rfl
      rw [List.take_zero, List.filter_eq_nil_iff]
      intro x hx
      rcases List.mem_cons.mp hx with e | e
      · rw [e]; simp; omega
      · have := hs.1 x.1 (List.mem_map.mpr ⟨x, e, rfl⟩)
        simp
        omega
    | succ k =>
      have h := h1 y (by simp)
      rw [List.take_succ_cons, List.filter_cons, if_pos (by simp; exact h), ih hs.2 (fun x hx => h1 x (by rw [List.take_succ_cons]; exact List.mem_cons_of_mem _ hx)) (fun x hx => h2 x (by simpa using hx))]
theorem WgI.done {l : Lets} {used now : Int} {wt : List Int} {come : Int} (hs : (l.map (·.1)).Pairwise (· ≤ ·)) (h : WgI l used now (wt, come)) (hc : (decide (come < (l.length : Int)) && decide ((ix l come).1 ≤ now)) = false) : wt = (availM l now).drop used.toNat ∧ l.take come.toNat = l.filter (fun x => decide (x.1 ≤ now)) := by
  obtain ⟨c0, c1, u1, w, le⟩ := h
  dsimp only at *
  have e := filter_take (k := come.toNat) hs le fun x hx => by
    obtain ⟨hlt, e⟩ := List.getElem?_eq_some_iff.mp hx
    have ei : ix l come = l[come.toNat] := ix_get c0 hlt
    rw [ei, e] at hc
    rcases Bool.and_eq_false_iff.mp hc with q | q
    · have := of_decide_eq_false q; omega
    · have := of_decide_eq_false q; omega
  exact ⟨by unfold availM; rw [e]; exact w, e.symm⟩
structure GonI (g : Prog) (s : Stand) (l : Lets) (pre : List Int) (st : List Int × Said × Tou × Int × Stand) : Prop where
  said : st.2.1 = (runF g s l pre).2.2.1
  fnd : st.2.2.1 = (runF g s l pre).2.2.2
  stand : st.2.2.2.2 = (runF g s l pre).2.1
  wg : ∀ now, (∀ p ∈ pre, p < now) → WgI l (runF g s l pre).1 now (st.1, st.2.2.2.1)
theorem GonI.start (g : Prog) (s : Stand) (l : Lets) : GonI g s l [] ([], [], [], 0, s) :=
  ⟨by rw [run_nil], by rw [run_nil], by rw [run_nil], fun now _ => by rw [run_nil]; exact ⟨Int.le_refl _, by dsimp only; omega, Int.le_refl _, by simp, by simp⟩⟩
theorem took_ne {g : Prog} {s : Stand} {l : List Int} (h : decide ((tickM g s l).b = Str.ofString "took") = true) : l ≠ [] := by
  revert h
  refine tick_cases (fun t => decide (t.b = Str.ofString "took") = true → l ≠ []) (fun _ h => ?_) (fun _ _ _ h => ?_) (fun r _ ht h => ?_)
  · exact absurd (of_decide_eq_true h) (show ¬ Str.ofString "ended" = Str.ofString "took" by decide +kernel)
  · exact absurd (of_decide_eq_true h) (show ¬ Str.ofString "waits" = Str.ofString "took" by decide +kernel)
  · have h' : dWo r = Str.ofString "took" := of_decide_eq_true h
    cases r with
    | take p => exact ht rfl
    | say p => exact absurd h' (show ¬ Str.ofString "said" = Str.ofString "took" by decide +kernel)
    | _ => exact absurd h' (show ¬ Str.ofString "did" = Str.ofString "took" by decide +kernel)
theorem GonI.step {g : Prog} {s : Stand} {l : Lets} {pre post : List Int} {now many : Int} {wt0 wt : List Int} {said : Said} {fnd : Tou} {come0 come : Int} {stand : Stand} {t : TickR} (hg : ProgOk g) (hs : StandOk g s) (hl : LetsOk g l) (ex : pre ++ now :: post = rng 0 many)
    (h : GonI g s l pre (wt0, said, fnd, come0, stand)) (hw : WgI l (runF g s l pre).1 now (wt, come)) (he : wt = (availM l now).drop (runF g s l pre).1.toNat) (ht : t = tickM g stand wt) :
    GonI g s l (pre ++ [now]) ((if decide (t.b = Str.ofString "took") = true then wt.drop 1 else wt), (if decide (t.b = Str.ofString "said") = true then said ++ [(now, t.c)] else said), fnd ++ [(t.d, t.e)], come, t.a) := by
  obtain ⟨h1, h2, h3, h4⟩ := h
  dsimp only at h1 h2 h3
  have hu := (run_ok hg hs hl pre).2
  have hr := run_law (s := s) (pre := pre) (now := now) (t := t) (used := (runF g s l pre).1) (stand := stand) (said := said) (touched := fnd) (by rw [h1, h2, h3]) (by rw [ht, he])
  refine ⟨by rw [← hr], by rw [← hr], by rw [← hr], fun now' hn' => ?_⟩
  have hn : now < now' := hn' now (by simp)
  rw [← hr]
  obtain ⟨c0, c1, u1, w, le⟩ := hw
  dsimp only at c0 c1 u1 w le ⊢
  have lt : ((l.take come.toNat).map (fun x : Int × Int => x.2)).length = come.toNat := by rw [List.length_map, List.length_take]; omega
  by_cases hk : decide (t.b = Str.ofString "took") = true
  · have hne := took_ne (by rw [← ht]; exact hk)
    have : (runF g s l pre).1.toNat < come.toNat := by
      have := List.length_pos_iff.mpr hne
      rw [w, List.length_drop, lt] at this
      omega
    rw [if_pos hk, if_pos hk]
    refine ⟨c0, c1, by dsimp only; omega, ?_, fun x hx => by have := le x hx; omega⟩
    dsimp only
    rw [w, List.drop_drop]
    congr 1
    omega
  · rw [if_neg hk, if_neg hk]
    exact ⟨c0, c1, by dsimp only; omega, by dsimp only; rw [Int.add_zero]; exact w, fun x hx => by have := le x hx; omega⟩
theorem runM_of {g : Prog} {s : Stand} {l : Lets} {many : Int} {used : Int} {stand : Stand} {said : Said} {touched : Tou} (h : (used, stand, said, touched) = runF g s l (rng 0 many)) : (⟨stand, said, touched⟩ : T3 Stand Said Tou) = runM g s l many := by
  unfold runM; rw [← h]
theorem runM_gon {g : Prog} {s : Stand} {l : Lets} {many : Int} {wt : List Int} {said : Said} {fnd : Tou} {come : Int} {stand : Stand} (h : GonI g s l (rng 0 many) (wt, said, fnd, come, stand)) : (⟨stand, said, fnd⟩ : T3 Stand Said Tou) = runM g s l many := by
  obtain ⟨h1, h2, h3, -⟩ := h
  dsimp only at h1 h2 h3
  unfold runM; rw [h1, h2, h3]
/-! ### drawn letters -/
theorem mapX_map {τ α β : Type} {e : τ → α → β} {step : τ → α → τ} {f : β → α} (h : ∀ s x, f (e s x) = x) (xs : List α) (s0 : τ) : (mapX e step xs s0).1.map f = xs := by
  unfold mapX
  have : ∀ (l : List α) (a : List β) (s : τ), (l.foldl (fun (a : List β × τ) x => (a.1 ++ [e a.2 x], step a.2 x)) (a, s)).1.map f = a.map f ++ l := by
    intro l
    induction l with
    | nil => intro a s; simp
    | cons x l ih =>
      intro a s
      rw [List.foldl_cons, ih, List.map_append]
      simp [h]
  exact (this xs [] s0).trans (by simp)
theorem lets_ok {g : Prog} {z : Pen} {ts : List Int} (hg : 0 < g.b) (hs : ts.Pairwise (· ≤ ·)) (hl : ts.length ≤ 1000) : LetsOk g (mapX (fun st (x : Int) => (x, (penTake st g.b).1)) (fun st _ => (penTake st g.b).2) ts z).1 :=
  ⟨by rw [mapX_map (f := fun x : Int × Int => x.1) (fun _ _ => rfl)]; exact hs, mapX_all (fun x : Int × Int => 0 ≤ x.2 ∧ x.2 < g.b) (fun st _ => pen_bd st hg) _ _, by rw [mapX_len]; exact hl⟩
theorem lets_fp {g : Prog} {z : Pen} {ts : List Int} : Anch.fp (mapX (fun st (x : Int) => (x, (penTake st g.b).1)) (fun st _ => (penTake st g.b).2) ts z).2 = Anch.fp z :=
  mapX_inv (fun st => Anch.fp st = Anch.fp z) (fun s x h => by rw [pen_fp]; exact h) ts z rfl
theorem tks_fp {most : Int} {z : Pen} {ts : List Int} : Anch.fp (mapX (fun st (_ : Int) => (penTake (penTake st 2).2 (ix [3, most + 2] (penTake st 2).1)).1) (fun st _ => (penTake (penTake st 2).2 (ix [3, most + 2] (penTake st 2).1)).2) ts z).2 = Anch.fp z :=
  mapX_inv (fun st => Anch.fp st = Anch.fp z) (fun s x h => by rw [pen_fp, pen_fp]; exact h) ts z rfl
/-! ### told runs are small data -/
theorem dle_said (k : Nat) {x : Said} (h : x.length ≤ 1000000) : DLe (k + 2) (ToD.dat x) := by
  refine .lst (by rw [List.length_map]; exact h) fun y hy => ?_
  obtain ⟨z, -, e⟩ := List.mem_map.mp hy
  rw [← e]
  refine .tup (by simp) fun w hw => ?_
  rcases List.mem_cons.mp hw with e | e
  · rw [e]; exact .int
  · rw [List.mem_singleton.mp e]; exact dle_opt _ _
theorem runM_ok {g : Prog} {s : Stand} {l : Lets} {many : Int} (hg : ProgOk g) (hs : StandOk g s) (hl : LetsOk g l) : StandOk g (runM g s l many).a ∧ (runM g s l many).b.length ≤ many.toNat ∧ (runM g s l many).c.length = many.toNat := by
  have h := run_len (g := g) (s := s) (l := l) (rng 0 many)
  rw [len_rng, Int.sub_zero] at h
  unfold runM
  exact ⟨(run_ok hg hs hl _).1, h.2, h.1⟩
theorem dat_run {g : Prog} {s : Stand} {l : Lets} {many : Int} (hg : ProgOk g) (hs : StandOk g s) (hl : LetsOk g l) (hm : many ≤ 100000) : DLe 3 (ToD.dat (((runM g s l many).a, (runM g s l many).b) : Stand × Said)) := by
  obtain ⟨h1, h2, -⟩ := runM_ok (many := many) hg hs hl
  refine .tup (by simp) fun w hw => ?_
  rcases List.mem_cons.mp hw with e | e
  · rw [e]; exact dle_stand 0 hg h1
  · rw [List.mem_singleton.mp e]; exact dle_said 0 (by dsimp only; omega)
theorem tou_len {g : Prog} {s : Stand} {l : Lets} (xs : List Int) : ∀ x ∈ (runF g s l xs).2.2.2, x.1.l.length ≤ 2 ∧ x.2.l.length ≤ 1 := by
  refine rev_indU (P := fun xs => ∀ x ∈ (runF g s l xs).2.2.2, x.1.l.length ≤ 2 ∧ x.2.l.length ≤ 1) ?_ (fun xs n ih => ?_) xs
  · rw [run_nil]; intro x hx; simp at hx
  · rw [run_snoc]
    unfold runStep
    intro x hx
    rcases List.mem_append.mp hx with q | q
    · exact ih x q
    · rw [List.mem_singleton.mp q]; exact tick_rl
theorem dat_touch {g : Prog} {s : Stand} {l : Lets} {many : Int} (hm : many ≤ 100000) : DLe 3 (ToD.dat (runM g s l many).c) := by
  have h := run_len (g := g) (s := s) (l := l) (rng 0 many)
  rw [len_rng] at h
  have ht := tou_len (g := g) (s := s) (l := l) (rng 0 many)
  unfold runM
  refine .lst (by rw [List.length_map]; dsimp only; omega) fun y hy => ?_
  obtain ⟨z, hz, e⟩ := List.mem_map.mp hy
  rw [← e]
  have := ht z hz
  refine .tup (by simp) fun w hw => ?_
  rcases List.mem_cons.mp hw with e | e
  · rw [e]; exact dle_tp 0 (by omega)
  · rw [List.mem_singleton.mp e]; exact dle_tp 0 (by omega)
theorem dat_trace {g : Prog} {s : Stand} {l : Lets} {many : Int} (hm : many ≤ 100000) : DLe 3 (ToD.dat ((runM g s l many).c.map (fun x => x.2))) := by
  have h := run_len (g := g) (s := s) (l := l) (rng 0 many)
  rw [len_rng] at h
  have ht := tou_len (g := g) (s := s) (l := l) (rng 0 many)
  unfold runM
  refine .lst (by rw [List.length_map, List.length_map]; dsimp only; omega) fun y hy => ?_
  obtain ⟨z, hz, e⟩ := List.mem_map.mp hy
  obtain ⟨z', hz', e'⟩ := List.mem_map.mp hz
  rw [← e, ← e']
  have := ht z' hz'
  exact dle_tp 1 (by omega)
end GL

namespace GL
open PySem PySem.Spec PyProof.Rows L2
/-! ### rounds -/
abbrev RS := List (Int × Tp Int) × Dct Int × Int × List Int
abbrev RR := T3 (List (Int × Tp Int)) Int (Tp Int)
def rdC (most sl : Int) (s : RS) : Bool := !decide (s.2.2.2 = []) && (decide ((s.1.length : Int) < most) && (decide (s.1 = []) || decide (sl < (s.2.2.2.length : Int))))
def rdCop (b tick : Int) (c : Dct Int) (ps : Int × Int) : Dct Int := c.put ps.2 (tick + ps.1 / b)
def rdDue (n : Int) (trace : List (Tp Int)) (copied : Dct Int) (tick : Int) : List Int := ((rng 0 n).filter fun x => ((writtenIn trace 0 tick).get? x).isSome && decide (dix copied x ≤ dix (writtenIn trace 0 tick) x)).map fun x => x
def rdN (n : Int) (trace : List (Tp Int)) (b : Int) (s : RS) : RS :=
  (s.1 ++ [(s.2.2.1, ⟨s.2.2.2⟩)], (enumI s.2.2.2).foldl (rdCop b s.2.2.1) s.2.1, s.2.2.1 + ((s.2.2.2.length : Int) + b - 1) / b, rdDue n trace ((enumI s.2.2.2).foldl (rdCop b s.2.2.1) s.2.1) (s.2.2.1 + ((s.2.2.2.length : Int) + b - 1) / b))
def rdB (n : Int) (trace : List (Tp Int)) (b : Int) (s : RS) : Fl RS RR := .nx (rdN n trace b s)
def rdK (s : RS) : RR := ⟨s.1, s.2.2.1, ⟨s.2.2.2⟩⟩
@[irreducible] def roundsM (n : Int) (trace : List (Tp Int)) (b sl most : Int) : RR := whl (rdC most sl) (rdB n trace b) rdK most.toNat ([], Dct.emp, 0, rng 0 n)
structure RdI (n b most : Int) (s : RS) : Prop where
  due : ∀ x ∈ s.2.2.2, 0 ≤ x ∧ x < n
  len : (s.2.2.2.length : Int) ≤ n
  cov : ∀ x, 0 ≤ x → x < n → (s.2.1.get? x).isSome = true ∨ x ∈ s.2.2.2
  cok : s.2.1.Ok 1000
  t0 : 0 ≤ s.2.2.1
  t1 : s.2.2.1 ≤ 2000 * (s.1.length : Int)
structure RdP (n : Int) (trace : List (Tp Int)) (b most : Int) : Prop where
  n0 : 0 ≤ n
  n1 : n ≤ 1000
  tr : TrOk trace
  b0 : 1 ≤ b
  b1 : b ≤ 1000
  m0 : 0 ≤ most
  m1 : most ≤ 1000
theorem rdC_lt {most sl : Int} {s : RS} (h : rdC most sl s = true) : (s.1.length : Int) < most := by
  unfold rdC at h
  simp only [Bool.and_eq_true, decide_eq_true_eq] at h
  exact h.2.1
theorem cop_ok {b tick : Int} {l : List (Int × Int)} (hl : ∀ p ∈ l, 0 ≤ p.2 ∧ p.2 < 1000) : ∀ {d : Dct Int}, d.Ok 1000 → (l.foldl (rdCop b tick) d).Ok 1000 := by
  induction l with
  | nil => intro d h; exact h
  | cons p l ih =>
    intro d h
    exact ih (fun q hq => hl q (List.mem_cons_of_mem _ hq)) (h.put _ (hl p List.mem_cons_self))
theorem cop_keep {b tick x : Int} {l : List (Int × Int)} : ∀ {d : Dct Int}, (d.get? x).isSome = true → ((l.foldl (rdCop b tick) d).get? x).isSome = true := by
  induction l with
  | nil => intro d h; exact h
  | cons p l ih =>
    intro d h
    refine ih ?_
    unfold rdCop
    rw [Dct.get?_put]
    split
    · rfl
    · exact h
theorem cop_has {b tick x : Int} {l : List (Int × Int)} : ∀ {d : Dct Int}, x ∈ l.map (·.2) → ((l.foldl (rdCop b tick) d).get? x).isSome = true := by
  induction l with
  | nil => intro d h; simp at h
  | cons p l ih =>
    intro d h
    rw [List.map_cons, List.mem_cons] at h
    rcases h with h | h
    · refine cop_keep (d := rdCop b tick d p) ?_
      unfold rdCop
      rw [Dct.get?_put, if_pos h]
      rfl
    · exact ih h
theorem enumI_snd {α : Type} (xs : List α) : (enumI xs).map (·.2) = xs := by
  unfold enumI
  rw [List.map_map]
  show List.map (fun p => p.1) xs.zipIdx = xs
  exact List.zipIdx_map_fst 0 xs
theorem enumI_fst {α : Type} {xs : List α} {p : Int × α} (h : p ∈ enumI xs) : p.2 ∈ xs := List.mem_of_getElem? (mem_enumI.mp h).2
theorem RdI.copOk {n b most : Int} {s : RS} (I : RdI n b most s) (hn : n ≤ 1000) {pre : List (Int × Int)} (h : ∀ p ∈ pre, p ∈ enumI s.2.2.2) : (pre.foldl (rdCop b s.2.2.1) s.2.1).Ok 1000 :=
  cop_ok (fun p hp => by have := I.due p.2 (enumI_fst (h p hp)); omega) I.cok
theorem RdI.covered {n b most : Int} {s : RS} (I : RdI n b most s) {x : Int} (h0 : 0 ≤ x) (h1 : x < n) : (((enumI s.2.2.2).foldl (rdCop b s.2.2.1) s.2.1).get? x).isSome = true := by
  rcases I.cov x h0 h1 with h | h
  · exact cop_keep h
  · exact cop_has (by rw [enumI_snd]; exact h)
theorem due_mem {n tick : Int} {trace : List (Tp Int)} {c : Dct Int} {x : Int} (h : x ∈ rdDue n trace c tick) : 0 ≤ x ∧ x < n := by
  unfold rdDue at h
  rw [List.map_id'] at h
  exact mem_rng.mp (List.mem_filter.mp h).1
theorem div_bound {l b : Int} (hb : 1 ≤ b) (hl : 0 ≤ l) : 0 ≤ (l + b - 1) / b ∧ (l + b - 1) / b ≤ l := by
  refine ⟨Int.ediv_nonneg (by omega) (by omega), ?_⟩
  have h : (l + b - 1) / b < l + 1 := by
    apply Int.ediv_lt_of_lt_mul (by omega)
    have : l * b ≥ l := by
      have := Int.mul_le_mul_of_nonneg_left hb hl
      omega
    rw [Int.add_mul]
    omega
  omega
theorem RdI.next {n b most : Int} {trace : List (Tp Int)} {s : RS} (P : RdP n trace b most) (I : RdI n b most s) : RdI n b most (rdN n trace b s) := by
  have hb := div_bound (l := (s.2.2.2.length : Int)) P.b0 (by omega)
  refine ⟨fun x hx => due_mem hx, ?_, fun x h0 h1 => .inl (I.covered h0 h1), I.copOk P.n1 fun _ h => h, ?_, ?_⟩
  · show ((rdDue n trace _ _).length : Int) ≤ n
    unfold rdDue
    rw [List.length_map]
    have h1 := List.length_filter_le (fun x => ((writtenIn trace 0 (s.2.2.1 + ((s.2.2.2.length : Int) + b - 1) / b)).get? x).isSome && decide (dix ((enumI s.2.2.2).foldl (rdCop b s.2.2.1) s.2.1) x ≤ dix (writtenIn trace 0 (s.2.2.1 + ((s.2.2.2.length : Int) + b - 1) / b)) x)) (rng 0 n)
    rw [len_rng] at h1
    have := P.n0
    omega
  · show 0 ≤ s.2.2.1 + ((s.2.2.2.length : Int) + b - 1) / b
    have := I.t0
    omega
  · show s.2.2.1 + ((s.2.2.2.length : Int) + b - 1) / b ≤ 2000 * ((s.1 ++ [(s.2.2.1, (⟨s.2.2.2⟩ : Tp Int))]).length : Int)
    rw [List.length_append]
    have h1 := I.t1
    have h2 := I.len
    have h3 := P.n1
    simp only [List.length_singleton]
    omega
theorem RdI.start {n b most : Int} (hn : 0 ≤ n) : RdI n b most ([], Dct.emp, 0, rng 0 n) :=
  ⟨fun x hx => mem_rng.mp hx, by show ((rng 0 n).length : Int) ≤ n; rw [len_rng]; omega, fun x h0 h1 => .inr (mem_rng.mpr ⟨h0, h1⟩), Dct.Ok.emp, Int.le_refl _, by show (0 : Int) ≤ 2000 * (0 : Int); omega⟩
end GL

namespace GL
open PySem PySem.Spec PyProof.Rows L2
/-! ### last writings, what lacks, what bars -/
/-- the last writing ahead of a stop, -1 where there is none -/
def lastW (trace : List (Tp Int)) (stop s : Int) : Int := (lastN trace stop.toNat s).getD (-1)
@[irreducible] def lastsM (n : Int) (trace : List (Tp Int)) (stop : Int) : List Int := (rng 0 n).map fun x => lastW trace stop x
theorem lasts_ret {n stop : Int} {trace : List (Tp Int)} : (rng 0 n).map (fun x => ((writtenIn trace 0 stop).get? x).getD (-1)) = lastsM n trace stop := by
  unfold lastsM lastW
  apply List.map_congr_left
  intro x _
  rw [writtenIn_get]
@[irreducible] def lackM (lasts : List Int) (b stop t : Int) : Int := ((lasts.filter fun x => decide (t ≤ x)).length : Int) - b * (stop - t - 1)
theorem lack_ret {lasts : List Int} {b stop t : Int} : (((lasts.filter fun x => decide (t ≤ x)).map fun x => x).length : Int) - b * (stop - t - 1) = lackM lasts b stop t := by
  unfold lackM
  rw [List.length_map]
@[irreducible] def barsM (n : Int) (trace : List (Tp Int)) (b s stop t : Int) : Bool := if -1 ≤ t ∧ t < stop then decide (s < lackM (lastsM n trace stop) b stop t) else false
theorem len_lasts (n : Int) (trace : List (Tp Int)) (stop : Int) : (lastsM n trace stop).length = n.toNat := by
  unfold lastsM
  rw [List.length_map, len_rng, Int.sub_zero]
/-! the law's own way to the last writing -/
def lawLastS (trail : List (Tp Int)) (sheet : Int) (found beat : Int) : Int := if decide (sheet ∈ (ix trail beat).l) = true then beat else found
theorem lawLast_eq (trail : List (Tp Int)) (stop s : Int) : (rng 0 (min stop trail.length)).foldl (lawLastS trail s) (-1) = lastW trail stop s := by
  have h : ∀ n : Nat, n ≤ trail.length → (rng 0 (n : Int)).foldl (lawLastS trail s) (-1) = (lastN trail n s).getD (-1) := by
    intro n
    induction n with
    | zero => intro _; rw [rng_nil (by omega)]; rfl
    | succ n ih =>
      intro hn
      rw [show ((n + 1 : Nat) : Int) = (n : Int) + 1 by omega, rng_succ (by omega), List.foldl_append, ih (by omega), List.foldl_cons, List.foldl_nil, lastN]
      unfold lawLastS
      have : ix trail (n : Int) = trail.getD n ⟨[]⟩ := by unfold ix; rfl
      rw [this]
      by_cases q : s ∈ (trail.getD n ⟨[]⟩).l
      · rw [if_pos (decide_eq_true q), if_pos q]
        rfl
      · rw [if_neg (by rw [decide_eq_false q]; decide), if_neg q]
  unfold lastW
  by_cases h1 : stop < 0
  · rw [rng_nil (by omega), show stop.toNat = 0 by omega]
    rfl
  · by_cases h2 : stop ≤ trail.length
    · rw [Int.min_eq_left h2]
      have := h stop.toNat (by omega)
      rw [show ((stop.toNat : Nat) : Int) = stop by omega] at this
      exact this
    · rw [Int.min_eq_right (by omega), h trail.length (Nat.le_refl _), lastN_more trail s stop.toNat (by omega)]
/-! far right -/
theorem farW {x stop : Int} (h0 : 0 ≤ x) (h1 : x < 12) (h2 : 2000 ≤ stop) : lastW (List.replicate 1988 (⟨[]⟩ : Tp Int) ++ List.replicate 12 (⟨rng 0 12⟩ : Tp Int)) stop x = 1999 := by
  unfold lastW
  have hl : (List.replicate 1988 (⟨[]⟩ : Tp Int) ++ List.replicate 12 (⟨rng 0 12⟩ : Tp Int)).length = 1999 + 1 := by rw [List.length_append, List.length_replicate, List.length_replicate]
  rw [lastN_more _ _ _ (by rw [hl]; omega), hl, lastN, if_pos]
  · rfl
  · rw [List.getD_eq_getElem?_getD, List.getElem?_append_right (by rw [List.length_replicate]; omega), List.length_replicate, List.getElem?_replicate, if_pos (by omega)]
    exact mem_rng.mpr ⟨h0, h1⟩
theorem far_bars {stop t : Int} (h2 : 2000 ≤ stop) (h0 : 0 ≤ t) (h1 : t ≤ 1999) : barsM 12 (List.replicate 1988 (⟨[]⟩ : Tp Int) ++ List.replicate 12 (⟨rng 0 12⟩ : Tp Int)) 1 0 stop t = decide (0 < 12 - (stop - t - 1)) := by
  unfold barsM lackM
  rw [if_pos (by omega)]
  have e : (lastsM 12 (List.replicate 1988 (⟨[]⟩ : Tp Int) ++ List.replicate 12 (⟨rng 0 12⟩ : Tp Int)) stop).filter (fun x => decide (t ≤ x)) = lastsM 12 (List.replicate 1988 (⟨[]⟩ : Tp Int) ++ List.replicate 12 (⟨rng 0 12⟩ : Tp Int)) stop := by
    apply List.filter_eq_self.mpr
    intro y hy
    unfold lastsM at hy
    obtain ⟨x, hx, rfl⟩ := List.mem_map.mp hy
    rw [mem_rng] at hx
    rw [farW hx.1 hx.2 h2]
    exact decide_eq_true h1
  rw [e, len_lasts, Int.one_mul]
  rfl
end GL

namespace GL
open PySem PySem.Spec PyProof.Rows L2
/-! ### the fewest that must be left -/
def lsStep (ls : List Int) (b stop : Int) (s : Int × Option Int) (t : Int) : Int × Option Int :=
  if decide (t < stop) && decide (s.1 < lackM ls b stop t) then (lackM ls b stop t, some t) else s
def lsFold (ls : List Int) (b stop : Int) : Int × Option Int := (usrt ls).foldl (lsStep ls b stop) (0, none)
@[irreducible] def leastM (n : Int) (trace : List (Tp Int)) (b stop : Int) : Int × Option Int := lsFold (lastsM n trace stop) b stop
@[irreducible] def lawLeastM (n : Int) (trace : List (Tp Int)) (b stop : Int) : Int := maxL ([0] ++ (rng (-1) stop).map fun t => lackM (lastsM n trace stop) b stop t)

structure LsI (ls : List Int) (b stop : Int) (xs : List Int) (s : Int × Option Int) : Prop where
  nn : 0 ≤ s.1
  all : ∀ t ∈ xs, t < stop → lackM ls b stop t ≤ s.1
  nil : s.1 = 0 ↔ s.2 = none
  at_ : ∀ t, s.2 = some t → t ∈ xs ∧ t < stop ∧ lackM ls b stop t = s.1
theorem ls_inv (ls : List Int) (b stop : Int) (xs : List Int) : LsI ls b stop xs (xs.foldl (lsStep ls b stop) (0, none)) := by
  have h : ∀ (ys zs : List Int) (s : Int × Option Int), LsI ls b stop zs s → LsI ls b stop (zs ++ ys) (ys.foldl (lsStep ls b stop) s) := by
    intro ys
    induction ys with
    | nil => intro zs s h; simpa using h
    | cons y ys ih =>
      intro zs s h
      have e : zs ++ y :: ys = (zs ++ [y]) ++ ys := by simp
      rw [e]
      refine ih (zs ++ [y]) _ ?_
      unfold lsStep
      split
      · rename_i hc
        simp only [Bool.and_eq_true, decide_eq_true_eq] at hc
        have := h.nn
        refine ⟨by dsimp only; omega, fun t ht hs => ?_, ⟨fun q => by dsimp only at q; omega, fun q => by cases q⟩, fun t ht => ?_⟩
        · rcases List.mem_append.mp ht with q | q
          · have := h.all t q hs; dsimp only; omega
          · rw [List.mem_singleton.mp q]; exact Int.le_refl _
        · dsimp only at ht
          cases ht
          exact ⟨by simp, hc.1, rfl⟩
      · rename_i hc
        simp only [Bool.and_eq_true, decide_eq_true_eq, not_and] at hc
        refine ⟨h.nn, fun t ht hs => ?_, h.nil, fun t ht => ?_⟩
        · rcases List.mem_append.mp ht with q | q
          · exact h.all t q hs
          · have ey := List.mem_singleton.mp q
            rw [ey] at hs ⊢
            have := hc hs
            omega
        · have := h.at_ t ht
          exact ⟨List.mem_append_left _ this.1, this.2⟩
  have := h xs [] (0, none) ⟨Int.le_refl _, fun t ht => absurd ht (by simp), ⟨fun _ => rfl, fun _ => rfl⟩, fun t ht => by cases ht⟩
  simpa using this

theorem lack_le {ls : List Int} {b stop t : Int} (hb : 0 ≤ b) (h0 : t < stop) (hl : ∀ x ∈ ls, x < stop) : lackM ls b stop t ≤ 0 ∨ ∃ x ∈ ls, x < stop ∧ t ≤ x ∧ lackM ls b stop t ≤ lackM ls b stop x := by
  by_cases hx : ∃ x ∈ ls, t ≤ x
  · -- the least of those not below t
    obtain ⟨x0, hx0, hx1⟩ := hx
    have : ∃ x ∈ ls, t ≤ x ∧ ∀ y ∈ ls, t ≤ y → x ≤ y := by
      have key : ∀ (ys : List Int), (∃ x ∈ ys, t ≤ x) → ∃ x ∈ ys, t ≤ x ∧ ∀ y ∈ ys, t ≤ y → x ≤ y := by
        intro ys
        induction ys with
        | nil => rintro ⟨x, hx, _⟩; simp at hx
        | cons y ys ih =>
          intro hex
          by_cases hr : ∃ x ∈ ys, t ≤ x
          · obtain ⟨x, h1, h2, h3⟩ := ih hr
            by_cases hy : t ≤ y ∧ y ≤ x
            · refine ⟨y, List.mem_cons_self, hy.1, fun z hz hz2 => ?_⟩
              rcases List.mem_cons.mp hz with e | e
              · omega
              · have := h3 z e hz2; omega
            · refine ⟨x, List.mem_cons_of_mem _ h1, h2, fun z hz hz2 => ?_⟩
              rcases List.mem_cons.mp hz with e | e
              · omega
              · exact h3 z e hz2
          · obtain ⟨x, hx, hx2⟩ := hex
            rcases List.mem_cons.mp hx with e | e
            · subst e
              refine ⟨x, List.mem_cons_self, hx2, fun z hz hz2 => ?_⟩
              rcases List.mem_cons.mp hz with e | e
              · omega
              · exact absurd ⟨z, e, hz2⟩ hr
            · exact absurd ⟨x, e, hx2⟩ hr
      exact key ls ⟨x0, hx0, hx1⟩
    obtain ⟨x, h1, h2, h3⟩ := this
    refine .inr ⟨x, h1, hl x h1, h2, ?_⟩
    unfold lackM
    have e : ls.filter (fun y => decide (t ≤ y)) = ls.filter (fun y => decide (x ≤ y)) := by
      apply List.filter_congr
      intro y hy
      by_cases q : t ≤ y
      · rw [decide_eq_true q, decide_eq_true (h3 y hy q)]
      · rw [decide_eq_false q, decide_eq_false (by omega)]
    rw [e]
    have : b * (stop - x - 1) ≤ b * (stop - t - 1) := Int.mul_le_mul_of_nonneg_left (by omega) hb
    omega
  · refine .inl ?_
    unfold lackM
    have e : ls.filter (fun y => decide (t ≤ y)) = [] := by
      apply List.filter_eq_nil_iff.mpr
      intro y hy
      rw [decide_eq_false (fun q => hx ⟨y, hy, q⟩)]
      decide
    rw [e]
    have : 0 ≤ b * (stop - t - 1) := Int.mul_nonneg hb (by omega)
    simp only [List.length_nil]
    omega
theorem lastN_lt (trace : List (Tp Int)) (s : Int) : ∀ n : Nat, -1 ≤ (lastN trace n s).getD (-1) ∧ (lastN trace n s).getD (-1) < n ∧ (lastN trace n s).getD (-1) < trace.length := by
  intro n
  induction n with
  | zero => simp [lastN]; omega
  | succ n ih =>
    rw [lastN]
    by_cases q : s ∈ (trace.getD n ⟨[]⟩).l
    · rw [if_pos q]
      have : n < trace.length := by
        by_cases h : n < trace.length
        · exact h
        · rw [List.getD_eq_getElem?_getD, List.getElem?_eq_none (by omega)] at q
          simp at q
      simp only [Option.getD_some]
      omega
    · rw [if_neg q]
      omega
theorem lasts_bd {n stop x : Int} {trace : List (Tp Int)} (h0 : 0 ≤ stop) (h : x ∈ lastsM n trace stop) : -1 ≤ x ∧ x < stop ∧ x < trace.length := by
  unfold lastsM at h
  obtain ⟨s, _, rfl⟩ := List.mem_map.mp h
  unfold lastW
  have := lastN_lt trace s stop.toNat
  omega
theorem lasts_bd' {n stop x : Int} {trace : List (Tp Int)} (h : x ∈ lastsM n trace stop) : -1 ≤ x := by
  unfold lastsM at h
  obtain ⟨s, _, rfl⟩ := List.mem_map.mp h
  unfold lastW
  have := lastN_lt trace s stop.toNat
  omega
/-- what is told: the greatest lack of all numbers, and one that has it -/
theorem least_spec {n b stop : Int} {trace : List (Tp Int)} (hb : 0 ≤ b) (h0 : 0 ≤ stop) :
    0 ≤ (leastM n trace b stop).1 ∧ (∀ t, t < stop → lackM (lastsM n trace stop) b stop t ≤ (leastM n trace b stop).1) ∧ ((leastM n trace b stop).1 = 0 ↔ (leastM n trace b stop).2 = none) ∧
      ∀ t, (leastM n trace b stop).2 = some t → -1 ≤ t ∧ t < stop ∧ lackM (lastsM n trace stop) b stop t = (leastM n trace b stop).1 := by
  unfold leastM lsFold
  have I := ls_inv (lastsM n trace stop) b stop (usrt (lastsM n trace stop))
  refine ⟨I.nn, fun t ht => ?_, I.nil, fun t ht => ?_⟩
  · rcases lack_le (t := t) (ls := lastsM n trace stop) hb ht (fun x hx => (lasts_bd h0 hx).2.1) with q | ⟨x, hx, hs, ht, q⟩
    · exact Int.le_trans q I.nn
    · exact Int.le_trans q (I.all x (mem_usrt.mpr hx) hs)
  · have := I.at_ t ht
    exact ⟨(lasts_bd' (mem_usrt.mp this.1)), this.2⟩
theorem lawLeast_eq {n b stop : Int} {trace : List (Tp Int)} (hb : 0 ≤ b) (h0 : 0 ≤ stop) : lawLeastM n trace b stop = (leastM n trace b stop).1 := by
  obtain ⟨h1, h2, h3, h4⟩ := least_spec (n := n) (trace := trace) hb h0
  unfold lawLeastM
  refine (maxL_eq ?_ ?_).symm
  · cases e : (leastM n trace b stop).2 with
    | none => rw [h3.mpr e]; simp
    | some t =>
      have := h4 t e
      refine List.mem_append_right _ (List.mem_map.mpr ⟨t, mem_rng.mpr ⟨this.1, this.2.1⟩, this.2.2⟩)
  · intro y hy
    rcases List.mem_append.mp hy with q | q
    · rw [List.mem_singleton.mp q]; exact h1
    · obtain ⟨t, ht, rfl⟩ := List.mem_map.mp q
      exact h2 t (mem_rng.mp ht).2
theorem lastW_len (trace : List (Tp Int)) (stop s : Int) (h : (trace.length : Int) ≤ stop) : lastW trace stop s = lastW trace trace.length s := by
  unfold lastW
  rw [lastN_more trace s stop.toNat (by omega), Int.toNat_natCast]
theorem lasts_len {n stop : Int} {trace : List (Tp Int)} (h : (trace.length : Int) ≤ stop) : lastsM n trace stop = lastsM n trace trace.length := by
  unfold lastsM
  apply List.map_congr_left
  intro x _
  exact lastW_len trace stop x h
theorem least_more {n b : Int} {trace : List (Tp Int)} (hb : 0 ≤ b) : (leastM n trace b (trace.length + 1)).1 ≤ (leastM n trace b trace.length).1 := by
  obtain ⟨h1, h2, h3, h4⟩ := least_spec (n := n) (trace := trace) (stop := trace.length + 1) hb (by omega)
  obtain ⟨g1, g2, g3, g4⟩ := least_spec (n := n) (trace := trace) (stop := trace.length) hb (by omega)
  cases e : (leastM n trace b (trace.length + 1)).2 with
  | none => rw [h3.mpr e]; exact g1
  | some t =>
    obtain ⟨a1, a2, a3⟩ := h4 t e
    have el := lasts_len (n := n) (trace := trace) (stop := trace.length + 1) (by omega)
    rw [el] at a3
    rw [← a3]
    by_cases q : t < trace.length
    · refine Int.le_trans ?_ (g2 t q)
      unfold lackM
      have : b * ((trace.length : Int) - t - 1) ≤ b * ((trace.length : Int) + 1 - t - 1) := Int.mul_le_mul_of_nonneg_left (by omega) hb
      omega
    · have : lackM (lastsM n trace trace.length) b (trace.length + 1) t ≤ 0 := by
        unfold lackM
        have e : (lastsM n trace trace.length).filter (fun y => decide (t ≤ y)) = [] := by
          apply List.filter_eq_nil_iff.mpr
          intro y hy
          have := lasts_bd (by omega) hy
          rw [decide_eq_false (by omega)]
          decide
        rw [e]
        have : 0 ≤ b * ((trace.length : Int) + 1 - t - 1) := Int.mul_nonneg hb (by omega)
        simp only [List.length_nil]
        omega
      omega
/-! far right -/
theorem far_lasts {stop : Int} (h2 : 2000 ≤ stop) : lastsM 12 (List.replicate 1988 (⟨[]⟩ : Tp Int) ++ List.replicate 12 (⟨rng 0 12⟩ : Tp Int)) stop = List.replicate 12 1999 := by
  unfold lastsM
  apply List.eq_replicate_iff.mpr
  refine ⟨by rw [List.length_map, len_rng]; rfl, fun y hy => ?_⟩
  obtain ⟨x, hx, rfl⟩ := List.mem_map.mp hy
  rw [mem_rng] at hx
  exact farW hx.1 hx.2 h2
theorem far_least {stop : Int} (h2 : 2000 ≤ stop) : leastM 12 (List.replicate 1988 (⟨[]⟩ : Tp Int) ++ List.replicate 12 (⟨rng 0 12⟩ : Tp Int)) 1 stop = if 0 < 12 - (stop - 1999 - 1) then (12 - (stop - 1999 - 1), some 1999) else (0, none) := by
  unfold leastM lsFold
  rw [far_lasts h2]
  have e : ([1999] : List Int) = usrt (List.replicate 12 1999) := usrt_eq (List.pairwise_singleton _ _) fun k => by
    rw [List.mem_singleton, List.mem_replicate]
    exact ⟨fun h => ⟨by decide, h⟩, fun h => h.2⟩
  rw [← e, List.foldl_cons, List.foldl_nil]
  have el : lackM (List.replicate 12 1999) 1 stop 1999 = 12 - (stop - 1999 - 1) := by
    unfold lackM
    rw [List.filter_replicate_of_pos (by decide), List.length_replicate, Int.one_mul]
    rfl
  unfold lsStep
  rw [el, decide_eq_true (show (1999 : Int) < stop by omega), Bool.true_and]
  simp only [decide_eq_true_eq]
end GL

namespace GL
open PySem PySem.Spec PyProof.Rows L2
/-! ### what a plan leaves -/
def inT (stop : Int) (t : Int) : Bool := decide (0 ≤ t) && decide (t < stop)
def copStep (stop : Int) (d : Dct Int) (p : Int × Int) : Dct Int := if inT stop p.1 = true then d.put p.2 (max p.1 ((d.get? p.2).getD p.1)) else d
@[irreducible] def copM (copies : List (Int × Int)) (stop : Int) : Dct Int := copies.foldl (copStep stop) Dct.emp
@[irreducible] def leftM (n : Int) (trace : List (Tp Int)) (plan : List (Int × Int) × Int) : List Int := (rng 0 n).filter fun x => !((copM plan.1 plan.2).get? x).isSome || decide (dix (copM plan.1 plan.2) x ≤ ((writtenIn trace 0 plan.2).get? x).getD (-1))
/-- the ticks at which a sheet is copied ahead of the stop -/
def tks (copies : List (Int × Int)) (stop x : Int) : List Int := (copies.filter fun p => decide (p.2 = x) && inT stop p.1).map (·.1)
theorem lastG (trace : List (Tp Int)) (stop x : Int) : ((writtenIn trace 0 stop).get? x).getD (-1) = lastW trace stop x := by
  unfold lastW
  rw [writtenIn_get]
theorem maxL_snoc {l : List Int} (h : l ≠ []) (x : Int) : maxL (l ++ [x]) = max (maxL l) x := by
  cases l with
  | nil => exact absurd rfl h
  | cons a l =>
    show (l ++ [x]).foldl max a = max (l.foldl max a) x
    rw [List.foldl_append]
    rfl
theorem tks_snoc (copies : List (Int × Int)) (stop x : Int) (p : Int × Int) : tks (copies ++ [p]) stop x = if (decide (p.2 = x) && inT stop p.1) = true then tks copies stop x ++ [p.1] else tks copies stop x := by
  unfold tks
  rw [List.filter_append, List.map_append, List.filter_cons]
  split
  · rfl
  · simp
theorem rev_ind {δ : Type} {P : List δ → Prop} (h0 : P []) (h1 : ∀ l x, P l → P (l ++ [x])) (l : List δ) : P l := by
  have : ∀ l : List δ, P l.reverse := by
    intro l
    induction l with
    | nil => exact h0
    | cons x l ih => rw [List.reverse_cons]; exact h1 _ _ ih
  have q := this l.reverse
  rw [List.reverse_reverse] at q
  exact q
theorem cop_get (stop x : Int) (copies : List (Int × Int)) : (copM copies stop).get? x = if tks copies stop x = [] then none else some (maxL (tks copies stop x)) := by
  unfold copM
  refine rev_ind (P := fun copies => (copies.foldl (copStep stop) Dct.emp).get? x = if tks copies stop x = [] then none else some (maxL (tks copies stop x))) rfl (fun l p ih => ?_) copies
  rw [List.foldl_append, List.foldl_cons, List.foldl_nil, tks_snoc]
  generalize l.foldl (copStep stop) Dct.emp = d at ih ⊢
  unfold copStep
  by_cases h1 : inT stop p.1 = true
  · rw [if_pos h1, Dct.get?_put, h1, Bool.and_true]
    by_cases h2 : p.2 = x
    · rw [if_pos h2.symm, decide_eq_true h2, if_pos rfl, h2, ih]
      by_cases h3 : tks l stop x = []
      · rw [if_pos h3, h3, if_neg (by simp)]
        simp [maxL]
      · rw [if_neg h3, if_neg (by simp), maxL_snoc h3, Option.getD_some, Int.max_comm]
    · rw [if_neg (fun e => h2 e.symm), decide_eq_false h2, if_neg Bool.false_ne_true]
      exact ih
  · rw [if_neg h1, show (decide (p.2 = x) && inT stop p.1) = false by rw [Bool.eq_false_iff.mpr h1, Bool.and_false], if_neg Bool.false_ne_true]
    exact ih
def lfT (trace : List (Tp Int)) (copies : List (Int × Int)) (stop x : Int) : Bool := decide (tks copies stop x = []) || decide (maxL (tks copies stop x) ≤ lastW trace stop x)
theorem left_eq (n : Int) (trace : List (Tp Int)) (plan : List (Int × Int) × Int) : leftM n trace plan = (rng 0 n).filter (lfT trace plan.1 plan.2) := by
  unfold leftM
  apply List.filter_congr
  intro x _
  unfold lfT
  rw [lastG, cop_get]
  by_cases h : tks plan.1 plan.2 x = []
  · rw [if_pos h, decide_eq_true h]; rfl
  · rw [if_neg h, decide_eq_false h]
    have e : dix (copM plan.1 plan.2) x = maxL (tks plan.1 plan.2 x) := dix_of (by rw [cop_get, if_neg h])
    rw [e]
    rfl
theorem left_len (n : Int) (trace : List (Tp Int)) (plan : List (Int × Int) × Int) : (leftM n trace plan).length ≤ n.toNat := by
  rw [left_eq]
  refine Nat.le_trans (List.length_filter_le _ _) ?_
  rw [len_rng]
  omega
theorem left_mem {n : Int} {trace : List (Tp Int)} {plan : List (Int × Int) × Int} {x : Int} : x ∈ leftM n trace plan ↔ (0 ≤ x ∧ x < n) ∧ lfT trace plan.1 plan.2 x = true := by
  rw [left_eq, List.mem_filter, mem_rng]
/-- the law's own way -/
def lfStep (trace : List (Tp Int)) (plan : List (Int × Int) × Int) (f : List Int) (x : Int) : List Int := if lfT trace plan.1 plan.2 x = true then f ++ [x] else f
theorem foldl_filter {δ : Type} (p : δ → Bool) : ∀ (l acc : List δ), l.foldl (fun f x => if p x = true then f ++ [x] else f) acc = acc ++ l.filter p
  | [], acc => by simp
  | x :: l, acc => by
    rw [List.foldl_cons, foldl_filter p l, List.filter_cons]
    split <;> simp
theorem lf_fold (n : Int) (trace : List (Tp Int)) (plan : List (Int × Int) × Int) : (rng 0 n).foldl (lfStep trace plan) [] = leftM n trace plan := by
  rw [left_eq]
  have := foldl_filter (lfT trace plan.1 plan.2) (rng 0 n) []
  rw [List.nil_append] at this
  exact this
theorem lf_len (trace : List (Tp Int)) (plan : List (Int × Int) × Int) : ∀ (l acc : List Int), (l.foldl (lfStep trace plan) acc).length ≤ acc.length + l.length
  | [], acc => Nat.le_refl _
  | x :: l, acc => by
    rw [List.foldl_cons]
    refine Nat.le_trans (lf_len trace plan l _) ?_
    unfold lfStep
    split
    · simp
      try omega
    · simp
      try omega
theorem Dct.put_len2 {α : Type} (d : Dct α) (k : Int) (x : α) : (d.put k x).l.length ≤ d.l.length + 1 := by
  unfold Dct.put
  dsimp only
  split
  · rw [List.length_map]; omega
  · rw [List.length_append]; simp
theorem cop_len (stop : Int) : ∀ (l : List (Int × Int)) (d : Dct Int), (l.foldl (copStep stop) d).l.length ≤ d.l.length + l.length
  | [], d => Nat.le_refl _
  | p :: l, d => by
    rw [List.foldl_cons]
    refine Nat.le_trans (cop_len stop l _) ?_
    unfold copStep
    rw [List.length_cons]
    split
    · have := Dct.put_len2 d p.2 (max p.1 ((d.get? p.2).getD p.1))
      omega
    · omega
end GL

namespace GL
open PySem PySem.Spec PyProof.Rows L2
/-! ### plans for a stop -/
/-- the sheets that are to be copied, those last written first -/
@[irreducible] def dueM (lasts : List Int) (m : Int) : List Int := cutL ((srt2 ((enumI lasts).map fun x => (x.2, x.1))).map fun x => x.2) none (some m)
/-- where they go: the k-th at stop - 1 - k / b -/
@[irreducible] def plc (b stop : Int) (xs : List Int) : List (Int × Int) := (enumI xs).map fun p => (stop - 1 - p.1 / b, p.2)
abbrev PlanT := Str × Sum (List (Int × Int)) (Option Int)
@[irreducible] def planM (n : Int) (trace : List (Tp Int)) (b s stop : Int) : PlanT :=
  if decide (s < (leastM n trace b stop).1) = true then (Str.ofString "barred", .inr (leastM n trace b stop).2)
  else (Str.ofString "plan", .inl (srt2 (plc b stop (dueM (lastsM n trace stop) (max 0 (n - s))).reverse)))

theorem div_is {k b q : Int} (hb : 0 < b) (h1 : b * q ≤ k) (h2 : k < b * q + b) : k / b = q := by
  have e1 := Int.mul_ediv_self_le (x := k) (k := b) (by omega)
  have e2 := Int.lt_mul_ediv_self_add (x := k) (k := b) hb
  have a : k / b ≤ q := by
    by_cases h : k / b ≤ q
    · exact h
    · have := Int.mul_le_mul_of_nonneg_left (show q + 1 ≤ k / b by omega) (show 0 ≤ b by omega)
      rw [Int.mul_add, Int.mul_one] at this
      omega
  have c : q ≤ k / b := by
    by_cases h : q ≤ k / b
    · exact h
    · have := Int.mul_le_mul_of_nonneg_left (show k / b + 1 ≤ q by omega) (show 0 ≤ b by omega)
      rw [Int.mul_add, Int.mul_one] at this
      omega
  omega
/-- how full a tick is behind k copies -/
def roomF (b stop k t : Int) : Int := if t < stop then max 0 (min b (k - b * (stop - 1 - t))) else 0
def tickF (b stop k : Int) : Int := if k = 0 then stop - 1 else stop - 1 - (k - 1) / b
theorem roomF_0 {b stop t : Int} (hb : 0 < b) : roomF b stop 0 t = 0 := by
  unfold roomF
  split
  · have := Int.mul_nonneg (show 0 ≤ b by omega) (show 0 ≤ stop - 1 - t by omega)
    omega
  · rfl
theorem roomF_succ {b stop k t : Int} (hb : 0 < b) (hk : 0 ≤ k) : roomF b stop (k + 1) t = roomF b stop k t + (if t = stop - 1 - k / b then 1 else 0) := by
  have e1 := Int.mul_ediv_self_le (x := k) (k := b) (by omega)
  have e2 := Int.lt_mul_ediv_self_add (x := k) (k := b) hb
  have e3 : 0 ≤ k / b := Int.ediv_nonneg hk (by omega)
  generalize k / b = q at *
  unfold roomF
  by_cases ht : t < stop
  · rw [if_pos ht, if_pos ht]
    rcases Int.lt_trichotomy (stop - 1 - t) q with h | h | h
    · have := Int.mul_le_mul_of_nonneg_left (show stop - 1 - t + 1 ≤ q by omega) (show 0 ≤ b by omega)
      rw [Int.mul_add, Int.mul_one] at this
      rw [if_neg (by omega)]
      omega
    · rw [if_pos (by omega), h]
      omega
    · have := Int.mul_le_mul_of_nonneg_left (show q + 1 ≤ stop - 1 - t by omega) (show 0 ≤ b by omega)
      rw [Int.mul_add, Int.mul_one] at this
      rw [if_neg (by omega)]
      omega
  · rw [if_neg ht, if_neg ht, if_neg (by omega)]
    rfl
/-- the tick at hand is full, or it is the one to be filled -/
theorem tick_full {b stop k : Int} (hb : 0 < b) (hk : 0 ≤ k) : (roomF b stop k (tickF b stop k) = b ∧ tickF b stop k - 1 = stop - 1 - k / b) ∨ (roomF b stop k (tickF b stop k) ≠ b ∧ tickF b stop k = stop - 1 - k / b) := by
  by_cases h0 : k = 0
  · subst h0
    refine .inr ⟨by rw [roomF_0 hb]; omega, ?_⟩
    unfold tickF
    rw [if_pos rfl, Int.zero_ediv]
    omega
  · have e1 := Int.mul_ediv_self_le (x := k - 1) (k := b) (by omega)
    have e2 := Int.lt_mul_ediv_self_add (x := k - 1) (k := b) hb
    have e3 : 0 ≤ (k - 1) / b := Int.ediv_nonneg (by omega) (by omega)
    have et : tickF b stop k = stop - 1 - (k - 1) / b := by unfold tickF; rw [if_neg h0]
    rw [et]
    generalize hq : (k - 1) / b = q at *
    have er : roomF b stop k (stop - 1 - q) = k - b * q := by
      unfold roomF
      rw [if_pos (by omega), show stop - 1 - (stop - 1 - q) = q by omega]
      omega
    rw [er]
    by_cases h : k - b * q = b
    · refine .inl ⟨h, ?_⟩
      have : k / b = q + 1 := div_is hb (by rw [Int.mul_add, Int.mul_one]; omega) (by rw [Int.mul_add, Int.mul_one]; omega)
      omega
    · refine .inr ⟨h, ?_⟩
      have : k / b = q := div_is hb (by omega) (by omega)
      omega
theorem tick_below {b stop k : Int} (hb : 0 < b) (hk : 0 ≤ k) : roomF b stop k (tickF b stop k - 1) ≠ b := by
  by_cases h0 : k = 0
  · subst h0; rw [roomF_0 hb]; omega
  · have e2 := Int.lt_mul_ediv_self_add (x := k - 1) (k := b) hb
    have e3 : 0 ≤ (k - 1) / b := Int.ediv_nonneg (by omega) (by omega)
    have et : tickF b stop k = stop - 1 - (k - 1) / b := by unfold tickF; rw [if_neg h0]
    rw [et]
    generalize (k - 1) / b = q at *
    unfold roomF
    rw [if_pos (by omega), show stop - 1 - (stop - 1 - q - 1) = q + 1 by omega, Int.mul_add, Int.mul_one]
    omega
theorem tickF_succ {b stop k : Int} (hk : 0 ≤ k) : tickF b stop (k + 1) = stop - 1 - k / b := by
  unfold tickF
  rw [if_neg (by omega), Int.add_sub_cancel]
theorem plc_snoc (b stop : Int) (xs : List Int) (x : Int) : plc b stop (xs ++ [x]) = plc b stop xs ++ [(stop - 1 - (xs.length : Int) / b, x)] := by
  unfold plc enumI
  rw [List.zipIdx_append, List.map_append, List.map_append]
  simp
theorem plc_len (b stop : Int) (xs : List Int) : (plc b stop xs).length = xs.length := by unfold plc enumI; simp
/-- what holds along the copies -/
structure PlI (b stop : Int) (pre : List Int) (st : List (Int × Int) × Dct Int × Int) : Prop where
  cop : st.1 = plc b stop pre
  room : ∀ t, ((st.2.1.get? t).getD 0) = roomF b stop pre.length t
  few : st.2.1.l.length ≤ pre.length
  tick : st.2.2 = tickF b stop pre.length
theorem PlI.start (b stop : Int) (hb : 0 < b) : PlI b stop [] ([], Dct.emp, stop - 1) :=
  ⟨by unfold plc enumI; rfl, fun t => by show (0 : Int) = roomF b stop ((0 : Nat) : Int) t; rw [show ((0 : Nat) : Int) = 0 from rfl, roomF_0 hb], Nat.le_refl _, by unfold tickF; rfl⟩
theorem PlI.tick_at {b stop : Int} {pre : List Int} {c : List (Int × Int)} {r : Dct Int} {t t' : Int} (h : PlI b stop pre (c, r, t)) (hb : 0 < b) (hi : t' = t ∨ (t' = t - 1 ∧ (r.get? t).getD 0 = b)) (hc : decide ((r.get? t').getD 0 = b) = false) :
    t' = stop - 1 - (pre.length : Int) / b := by
  have hr := h.room
  have ht := h.tick
  dsimp only at hr ht
  have hc' := of_decide_eq_false hc
  rw [hr] at hc'
  rcases tick_full (stop := stop) (k := (pre.length : Int)) hb (by omega) with ⟨q1, q2⟩ | ⟨q1, q2⟩
  · rcases hi with e | ⟨e, e2⟩
    · rw [e, ht] at hc'; exact absurd q1 hc'
    · rw [e, ht]; exact q2
  · rcases hi with e | ⟨e, e2⟩
    · rw [e, ht]; exact q2
    · rw [hr, ht] at e2; exact absurd e2 q1
theorem PlI.stops {b stop : Int} {pre : List Int} {c : List (Int × Int)} {r : Dct Int} {t : Int} (h : PlI b stop pre (c, r, t)) (hb : 0 < b) : decide ((r.get? (t - 1)).getD 0 = b) = false := by
  have hr := h.room
  have ht := h.tick
  dsimp only at hr ht
  rw [hr, ht]
  exact decide_eq_false (tick_below hb (by omega))
theorem Dct.put_len {α : Type} (d : Dct α) (k : Int) (x : α) : (d.put k x).l.length ≤ d.l.length + 1 := by
  unfold Dct.put
  dsimp only
  split
  · rw [List.length_map]; omega
  · rw [List.length_append]; simp
theorem PlI.next {b stop : Int} {pre : List Int} {c : List (Int × Int)} {r : Dct Int} {t t' x : Int} (h : PlI b stop pre (c, r, t)) (hb : 0 < b) (e : t' = stop - 1 - (pre.length : Int) / b) :
    PlI b stop (pre ++ [x]) (c ++ [(t', x)], r.put t' ((r.get? t').getD 0 + 1), t') := by
  have hr := h.room
  have hc := h.cop
  have hf := h.few
  dsimp only at hr hc hf
  have el : ((pre ++ [x]).length : Int) = (pre.length : Int) + 1 := by simp
  refine ⟨?_, fun j => ?_, ?_, ?_⟩
  · dsimp only; rw [plc_snoc, hc, e]
  · dsimp only
    rw [el, roomF_succ hb (by omega), Dct.get?_put, ← e]
    by_cases hj : j = t'
    · rw [if_pos hj, if_pos hj, hr, hj]; rfl
    · rw [if_neg hj, if_neg hj, hr]; omega
  · have := Dct.put_len r t' ((r.get? t').getD 0 + 1)
    simp only [List.length_append, List.length_singleton]
    omega
  · dsimp only; rw [el, tickF_succ (by omega), e]
theorem len_due (lasts : List Int) (m : Int) : (dueM lasts m).length ≤ lasts.length := by
  unfold dueM cutL
  rw [List.length_take, List.length_drop, List.length_map, (srt2_perm _).length_eq, List.length_map, len_enumI]
  omega
end GL

namespace GL
open PySem PySem.Spec PyProof.Rows L2
instance : Inhabited (Tp Int) := ⟨⟨[]⟩⟩
/-! ### stops one behind the other -/
abbrev ScanT := Sum (T3 Str Int (List (Int × Int))) (Str × List Int)
def scB (n : Int) (trace : List (Tp Int)) (b s : Int) (found : List Int) (stop : Int) : Fl (List Int) ScanT :=
  if decide ((planM n trace b s stop).1 = Str.ofString "plan") = true then .rt (.inl ⟨Str.ofString "stop", stop, lG (planM n trace b s stop).2⟩) else .nx (found ++ [(rG (planM n trace b s stop).2).getD default])
@[irreducible] def scanM (w : Str) (n : Int) (trace : List (Tp Int)) (b s m : Int) : ScanT := forL (scB n trace b s) (fun f => .inr (w, f)) (rng 0 m) []
theorem word_ne : Str.ofString "barred" ≠ Str.ofString "plan" := by decide
theorem plan_barred {n b s stop : Int} {trace : List (Tp Int)} (h : s < (leastM n trace b stop).1) : planM n trace b s stop = (Str.ofString "barred", .inr (leastM n trace b stop).2) := by
  unfold planM
  rw [if_pos (decide_eq_true h)]
theorem plan_plan {n b s stop : Int} {trace : List (Tp Int)} (h : (leastM n trace b stop).1 ≤ s) : planM n trace b s stop = (Str.ofString "plan", .inl (srt2 (plc b stop (dueM (lastsM n trace stop) (max 0 (n - s))).reverse))) := by
  unfold planM
  rw [if_neg (by rw [decide_eq_false (by omega)]; decide)]
theorem plan_left {n b s stop : Int} {trace : List (Tp Int)} (h : (planM n trace b s stop).1 = Str.ofString "plan") : (planM n trace b s stop).2.isLeft = true := by
  by_cases q : s < (leastM n trace b stop).1
  · rw [plan_barred q] at h; exact absurd h word_ne
  · rw [plan_plan (by omega)]; rfl
theorem plan_right {n b s stop : Int} {trace : List (Tp Int)} (hb : 0 ≤ b) (h0 : 0 ≤ stop) (hs : 0 ≤ s) (h : (planM n trace b s stop).1 ≠ Str.ofString "plan") : (planM n trace b s stop).2.isRight = true ∧ (rG (planM n trace b s stop).2).isSome = true := by
  by_cases q : s < (leastM n trace b stop).1
  · rw [plan_barred q]
    refine ⟨rfl, ?_⟩
    show (leastM n trace b stop).2.isSome = true
    refine Option.isSome_iff_ne_none.mpr fun e => ?_
    have := (least_spec (n := n) (trace := trace) hb h0).2.2.1.mpr e
    omega
  · rw [plan_plan (by omega)] at h; exact absurd rfl h
theorem forL_all {α τ ρ : Type} {body : τ → α → Fl τ ρ} {k : τ → ρ} (f : τ → α → τ) : ∀ (xs : List α) (s : τ), (∀ x ∈ xs, ∀ s, body s x = .nx (f s x)) → forL body k xs s = k (xs.foldl f s)
  | [], s, _ => rfl
  | x :: xs, s, h => by
    rw [forL, h x List.mem_cons_self]
    exact forL_all f xs (f s x) fun y hy => h y (List.mem_cons_of_mem _ hy)
theorem forL_app {α τ ρ : Type} {body : τ → α → Fl τ ρ} {k : τ → ρ} (f : τ → α → τ) : ∀ (xs ys : List α) (s : τ), (∀ x ∈ xs, ∀ s, body s x = .nx (f s x)) → forL body k (xs ++ ys) s = forL body k ys (xs.foldl f s)
  | [], ys, s, _ => rfl
  | x :: xs, ys, s, h => by
    rw [List.cons_append, forL, h x List.mem_cons_self]
    exact forL_app f xs ys (f s x) fun y hy => h y (List.mem_cons_of_mem _ hy)
theorem scB_barred {n b s stop : Int} {trace : List (Tp Int)} (h : s < (leastM n trace b stop).1) (f : List Int) : scB n trace b s f stop = .nx (f ++ [(leastM n trace b stop).2.getD default]) := by
  unfold scB
  rw [plan_barred h, if_neg (by rw [decide_eq_false word_ne]; decide)]
  rfl
theorem scB_plan {n b s stop : Int} {trace : List (Tp Int)} (h : (leastM n trace b stop).1 ≤ s) (f : List Int) : scB n trace b s f stop = .rt (.inl ⟨Str.ofString "stop", stop, srt2 (plc b stop (dueM (lastsM n trace stop) (max 0 (n - s))).reverse)⟩) := by
  unfold scB
  rw [plan_plan h, if_pos (decide_eq_true rfl)]
  rfl
theorem foldl_snoc {α β : Type} (g : α → β) : ∀ (xs : List α) (s : List β), xs.foldl (fun f x => f ++ [g x]) s = s ++ xs.map g
  | [], s => by simp
  | x :: xs, s => by rw [List.foldl_cons, foldl_snoc g xs, List.map_cons]; simp
/-- all barred -/
theorem scan_all {w : Str} {n b s m : Int} {trace : List (Tp Int)} (h : ∀ j, 0 ≤ j → j < m → s < (leastM n trace b j).1) : scanM w n trace b s m = .inr (w, (rng 0 m).map fun j => (leastM n trace b j).2.getD default) := by
  unfold scanM
  rw [forL_all (fun f j => f ++ [(leastM n trace b j).2.getD default]) _ _ fun x hx f => by
    have := mem_rng.mp hx
    exact scB_barred (h x this.1 this.2) f]
  rw [foldl_snoc]
  rfl
/-- the first that isn't -/
theorem scan_stop {w : Str} {n b s m m0 : Int} {trace : List (Tp Int)} (h0 : 0 ≤ m0) (h1 : m0 < m) (h : ∀ j, 0 ≤ j → j < m0 → s < (leastM n trace b j).1) (hp : (leastM n trace b m0).1 ≤ s) :
    scanM w n trace b s m = .inl ⟨Str.ofString "stop", m0, srt2 (plc b m0 (dueM (lastsM n trace m0) (max 0 (n - s))).reverse)⟩ := by
  unfold scanM
  obtain ⟨pre, post, e⟩ := List.append_of_mem (mem_rng.mpr ⟨h0, h1⟩ : m0 ∈ rng 0 m)
  obtain ⟨e1, _⟩ := rng_pre e.symm
  rw [e1] at e
  rw [e, forL_app (fun f j => f ++ [(leastM n trace b j).2.getD default]) _ _ _ fun x hx f => by
    have := mem_rng.mp hx
    exact scB_barred (h x this.1 this.2) f]
  rw [forL, scB_plan hp]
/-- each told number bars -/
theorem least_bars {n b s stop : Int} {trace : List (Tp Int)} (hb : 0 ≤ b) (h0 : 0 ≤ stop) (hs : 0 ≤ s) (h : s < (leastM n trace b stop).1) : barsM n trace b s stop ((leastM n trace b stop).2.getD default) = true := by
  obtain ⟨f1, f2, f3, f4⟩ := least_spec (n := n) (trace := trace) hb h0
  cases e : (leastM n trace b stop).2 with
  | none => have := f3.mpr e; omega
  | some t =>
    obtain ⟨g1, g2, g3⟩ := f4 t e
    rw [Option.getD_some]
    unfold barsM
    rw [if_pos ⟨g1, g2⟩, g3]
    exact decide_eq_true h
/-! ### what goes round -/
@[irreducible] def longM (lead ring : List (Tp Int)) (stop : Int) : List (Tp Int) := whl (fun f => decide ((f.length : Int) < stop)) (fun f => Fl.nx (f ++ ring)) id stop.toNat lead
def manyM (n : Int) (lead ring : List (Tp Int)) (b : Int) : Int := (lead.length : Int) + (ring.length : Int) + (n + b - 1) / b
@[irreducible] def everM (n : Int) (lead ring : List (Tp Int)) (b s : Int) : ScanT := scanM (Str.ofString "never") n (longM lead ring (manyM n lead ring b)) b s (manyM n lead ring b)
theorem long_spec {lead ring : List (Tp Int)} (hr : 0 < ring.length) (stop : Int) : ∃ m : Nat, longM lead ring stop = lead ++ (List.replicate m ring).flatten ∧ stop ≤ (longM lead ring stop).length ∧ (m = 0 ∨ ((longM lead ring stop).length : Int) < stop + ring.length) := by
  have h : ∀ (k : Nat) (f : List (Tp Int)) (m : Nat), f = lead ++ (List.replicate m ring).flatten → stop - f.length ≤ k → (m = 0 ∨ (f.length : Int) < stop + ring.length) →
      ∃ m' : Nat, whl (fun f => decide ((f.length : Int) < stop)) (fun f => Fl.nx (f ++ ring)) id k f = lead ++ (List.replicate m' ring).flatten ∧ stop ≤ (whl (fun f => decide ((f.length : Int) < stop)) (fun f => Fl.nx (f ++ ring)) id k f).length ∧
        (m' = 0 ∨ ((whl (fun f => decide ((f.length : Int) < stop)) (fun f => Fl.nx (f ++ ring)) id k f).length : Int) < stop + ring.length) := by
    intro k
    induction k with
    | zero => intro f m e hk hm; exact ⟨m, e, by show stop ≤ (f.length : Int); omega, hm⟩
    | succ k ih =>
      intro f m e hk hm
      rw [whl]
      by_cases q : (f.length : Int) < stop
      · rw [if_pos (decide_eq_true q)]
        refine ih (f ++ ring) (m + 1) ?_ (by rw [List.length_append]; omega) (.inr (by rw [List.length_append]; omega))
        rw [e, List.append_assoc, List.replicate_succ', List.flatten_append]
        simp
      · rw [if_neg (by rw [decide_eq_false q]; decide)]
        exact ⟨m, e, by show stop ≤ (f.length : Int); omega, hm⟩
  unfold longM
  exact h stop.toNat lead 0 (by simp) (by omega) (.inl rfl)
end GL
namespace GL
open PySem PySem.Spec PyProof.Rows L2
theorem many_bd {n b : Int} {lead ring : List (Tp Int)} (n0 : 0 ≤ n) (n1 : n ≤ 60) (b0 : 0 < b) (l0 : lead.length ≤ 10000) (r1 : ring.length ≤ 10000) : 0 ≤ manyM n lead ring b ∧ manyM n lead ring b ≤ 30000 := by
  unfold manyM
  have h1 : 0 ≤ (n + b - 1) / b := Int.ediv_nonneg (by omega) (by omega)
  have h2 : (n + b - 1) / b ≤ n := by
    by_cases h : n = 0
    · subst h
      rw [Int.ediv_eq_zero_of_lt (by omega) (by omega)]
      exact Int.le_refl _
    · have : (n + b - 1) / b < n + 1 := by
        apply Int.ediv_lt_of_lt_mul b0
        have : (n + 1) * b = n * b + b := by rw [Int.add_mul, Int.one_mul]
        have h3 : n * 1 ≤ n * b := Int.mul_le_mul_of_nonneg_left (by omega) n0
        omega
      omega
  omega
theorem long_ok {lead ring : List (Tp Int)} {stop : Int} (tl : TrOk lead) (tr : TrOk ring) (r0 : 0 < ring.length) (h : stop ≤ 30000) (r1 : ring.length ≤ 10000) : TrOk (longM lead ring stop) := by
  obtain ⟨m, h1, h2, h3⟩ := long_spec (lead := lead) r0 stop
  refine ⟨?_, fun t ht s hs => ?_⟩
  · rcases h3 with q | q
    · rw [q] at h1
      rw [h1]
      have := tl.len
      simpa using this
    · omega
  · rw [h1] at ht
    rcases List.mem_append.mp ht with q | q
    · exact tl.mem t q s hs
    · obtain ⟨l, hl, hq⟩ := List.mem_flatten.mp q
      rw [List.eq_of_mem_replicate hl] at hq
      exact tr.mem t hq s hs
end GL

namespace GL
open PySem PySem.Spec PyProof.Rows L2
/-- the last writing, told by where it is -/
theorem lastW_at {trace : List (Tp Int)} {stop p x : Int} (h0 : 0 ≤ p) (h1 : p < stop) (hx : x ∈ (trace.getD p.toNat ⟨[]⟩).l) (hn : ∀ i : Nat, p < i → (i : Int) < stop → x ∉ (trace.getD i ⟨[]⟩).l) : lastW trace stop x = p := by
  have h : ∀ n : Nat, p < n → (∀ i : Nat, p < i → i < n → x ∉ (trace.getD i ⟨[]⟩).l) → lastN trace n x = some p := by
    intro n
    induction n with
    | zero => intro q; omega
    | succ n ih =>
      intro q hh
      rw [lastN]
      by_cases e : p = n
      · rw [if_pos (by rw [e] at hx; exact hx), e]
      · rw [if_neg (hh n (by omega) (by omega))]
        exact ih (by omega) fun i a c => hh i a (by omega)
  unfold lastW
  rw [h stop.toNat (by omega) fun i a c => hn i a (by omega)]
  rfl
theorem lastW_none {trace : List (Tp Int)} {stop x : Int} (hn : ∀ i : Nat, (i : Int) < stop → x ∉ (trace.getD i ⟨[]⟩).l) : lastW trace stop x = -1 := by
  have h : ∀ n : Nat, (∀ i : Nat, i < n → x ∉ (trace.getD i ⟨[]⟩).l) → lastN trace n x = none := by
    intro n
    induction n with
    | zero => intro _; rfl
    | succ n ih =>
      intro hh
      rw [lastN, if_neg (hh n (by omega))]
      exact ih fun i a => hh i (by omega)
  unfold lastW
  rw [h stop.toNat fun i a => hn i (by omega)]
  rfl
/-- all written last at p -/
theorem least_flat {n b stop p : Int} {trace : List (Tp Int)} (hn : 0 < n) (hb : 0 < b) (hp : p < stop) (h : ∀ x, 0 ≤ x → x < n → lastW trace stop x = p) :
    leastM n trace b stop = if 0 < n - b * (stop - p - 1) then (n - b * (stop - p - 1), some p) else (0, none) := by
  have hl : lastsM n trace stop = List.replicate n.toNat p := by
    unfold lastsM
    apply List.eq_replicate_iff.mpr
    refine ⟨by rw [List.length_map, len_rng, Int.sub_zero], fun y hy => ?_⟩
    obtain ⟨x, hx, rfl⟩ := List.mem_map.mp hy
    rw [mem_rng] at hx
    exact h x hx.1 hx.2
  unfold leastM lsFold
  rw [hl]
  have e : ([p] : List Int) = usrt (List.replicate n.toNat p) := usrt_eq (List.pairwise_singleton _ _) fun k => by
    rw [List.mem_singleton, List.mem_replicate]
    exact ⟨fun h => ⟨by omega, h⟩, fun h => h.2⟩
  rw [← e, List.foldl_cons, List.foldl_nil]
  have el : lackM (List.replicate n.toNat p) b stop p = n - b * (stop - p - 1) := by
    unfold lackM
    rw [List.filter_replicate_of_pos (by simp), List.length_replicate]
    omega
  unfold lsStep
  rw [el, decide_eq_true hp, Bool.true_and]
  simp only [decide_eq_true_eq]
theorem ceil_le {n b j : Int} (hb : 0 < b) : (n + b - 1) / b ≤ j ↔ n ≤ b * j := by
  have e1 := Int.mul_ediv_self_le (x := n + b - 1) (k := b) (by omega)
  have e2 := Int.lt_mul_ediv_self_add (x := n + b - 1) (k := b) hb
  generalize (n + b - 1) / b = q at *
  constructor
  · intro h
    have := Int.mul_le_mul_of_nonneg_left h (show 0 ≤ b by omega)
    omega
  · intro h
    by_cases g : q ≤ j
    · exact g
    · have := Int.mul_le_mul_of_nonneg_left (show j + 1 ≤ q by omega) (show 0 ≤ b by omega)
      rw [Int.mul_add, Int.mul_one] at this
      omega
theorem flat_get {α : Type} (r : List α) (hr : 0 < r.length) : ∀ (m i : Nat), i < m * r.length → ((List.replicate m r).flatten)[i]? = r[i % r.length]?
  | 0, i, h => by omega
  | m + 1, i, h => by
    rw [List.replicate_succ, List.flatten_cons]
    by_cases q : i < r.length
    · rw [List.getElem?_append_left q, Nat.mod_eq_of_lt q]
    · rw [List.getElem?_append_right (by omega), flat_get r hr m (i - r.length) (by rw [Nat.add_mul, Nat.one_mul] at h; omega), ← Nat.mod_eq_sub_mod (by omega)]
theorem flat_len {α : Type} (r : List α) (m : Nat) : ((List.replicate m r).flatten).length = m * r.length := by
  induction m with
  | zero => simp
  | succ m ih => rw [List.replicate_succ, List.flatten_cons, List.length_append, ih, Nat.add_mul, Nat.one_mul]; omega
/-- what goes round, tick by tick -/
theorem long_at {lead ring : List (Tp Int)} (hr : 0 < ring.length) {stop : Int} {i : Nat} (hi : (i : Int) < stop) : (longM lead ring stop).getD i ⟨[]⟩ = if i < lead.length then lead.getD i ⟨[]⟩ else ring.getD ((i - lead.length) % ring.length) ⟨[]⟩ := by
  obtain ⟨m, h1, h2, h3⟩ := long_spec (lead := lead) hr stop
  rw [h1] at h2 ⊢
  rw [List.length_append, flat_len] at h2
  by_cases q : i < lead.length
  · rw [if_pos q, List.getD_eq_getElem?_getD, List.getElem?_append_left q, List.getD_eq_getElem?_getD]
  · rw [if_neg q, List.getD_eq_getElem?_getD, List.getElem?_append_right (by omega), flat_get ring hr m _ (by omega), List.getD_eq_getElem?_getD]
abbrev wholeT (n : Int) : Tp Int := ⟨rng 0 n⟩
theorem rep_getD {α : Type} {c i : Nat} {x d : α} (h : i < c) : (List.replicate c x).getD i d = x := by
  rw [List.getD_eq_getElem?_getD, List.getElem?_replicate, if_pos h]; rfl
/-- written at the tick ahead: barred -/
theorem least_now {n b j : Int} {T : List (Tp Int)} (hn : 0 < n) (hb : 0 < b) (h0 : 0 ≤ j) (h : 0 < j → T.getD (j - 1).toNat ⟨[]⟩ = wholeT n) : leastM n T b j = (n, some (j - 1)) := by
  rw [least_flat (p := j - 1) hn hb (by omega) fun x hx hx2 => ?_]
  · rw [show j - (j - 1) - 1 = 0 by omega, Int.mul_zero, Int.sub_zero, if_pos hn]
  · by_cases q : 0 < j
    · exact lastW_at (by omega) (by omega) (by rw [h q]; exact mem_rng.mpr ⟨hx, hx2⟩) fun i a c => by omega
    · rw [lastW_none fun i hi => by omega]; omega
/-- written at p last of all, quiet since -/
theorem least_since {n b j p : Int} {T : List (Tp Int)} (hn : 0 < n) (hb : 0 < b) (hp : p < j) (h0 : -1 ≤ p) (h : 0 ≤ p → T.getD p.toNat ⟨[]⟩ = wholeT n) (hq : ∀ i : Nat, p < i → (i : Int) < j → T.getD i ⟨[]⟩ = ⟨[]⟩) :
    (leastM n T b j).1 = max 0 (n - b * (j - p - 1)) := by
  rw [least_flat (p := p) hn hb hp fun x hx hx2 => ?_]
  · split <;> dsimp only <;> omega
  · by_cases q : 0 ≤ p
    · exact lastW_at q hp (by rw [h q]; exact mem_rng.mpr ⟨hx, hx2⟩) fun i a c => by rw [hq i a c]; simp
    · rw [lastW_none fun i hi => by rw [hq i (by omega) hi]; simp]; omega
theorem long_bd {n b : Int} (hn : 0 < n) (hb : 0 < b) : 0 < (n + b - 1) / b := by
  by_cases h : 0 < (n + b - 1) / b
  · exact h
  · have := (ceil_le (n := n) (j := 0) hb).mp (by omega)
    rw [Int.mul_zero] at this
    omega
theorem k26_never {n b : Int} {c : Nat} (hn : 0 < n) (hb : 0 < b) : ∃ ts : List Int, everM n (List.replicate c (wholeT n)) [wholeT n] b (n - 1) = .inr (Str.ofString "never", ts) ∧ (ts.length : Int) = c + 1 + (n + b - 1) / b ∧
    ∀ p ∈ enumI ts, barsM n (List.replicate c (wholeT n) ++ List.replicate ((n + b - 1) / b + 1).toNat (wholeT n)) b (n - 1) p.1 p.2 = true := by
  have hl := long_bd hn hb
  have hm : manyM n (List.replicate c (wholeT n)) [wholeT n] b = c + 1 + (n + b - 1) / b := by unfold manyM; rw [List.length_replicate]; rfl
  have hT : ∀ j : Int, 0 ≤ j → j < c + 1 + (n + b - 1) / b → leastM n (longM (List.replicate c (wholeT n)) [wholeT n] (c + 1 + (n + b - 1) / b)) b j = (n, some (j - 1)) := fun j h0 h1 =>
    least_now hn hb h0 fun q => by
      rw [long_at (by simp) (by omega), List.length_replicate]
      split
      · exact rep_getD (by assumption)
      · rw [List.length_singleton, Nat.mod_one]; rfl
  unfold everM
  rw [hm, scan_all fun j h0 h1 => by rw [hT j h0 h1]; dsimp only; omega]
  refine ⟨_, rfl, by rw [List.length_map, len_rng]; omega, fun p hp => ?_⟩
  obtain ⟨h0, h1⟩ := mem_enumI.mp hp
  rw [List.getElem?_map] at h1
  obtain ⟨j, hj, e⟩ := Option.map_eq_some_iff.mp h1
  have hlt : p.1.toNat < (c + 1 + (n + b - 1) / b - 0).toNat := by
    have := (List.getElem?_eq_some_iff.mp hj).1
    rwa [len_rng] at this
  rw [rng_get hlt] at hj
  have ej : j = p.1 := by have := Option.some.inj hj; omega
  rw [← e, ej, hT p.1 h0 (by omega)]
  have hU : leastM n (List.replicate c (wholeT n) ++ List.replicate ((n + b - 1) / b + 1).toNat (wholeT n)) b p.1 = (n, some (p.1 - 1)) := least_now hn hb h0 fun q => by
    rw [List.replicate_append_replicate]
    exact rep_getD (by omega)
  have := least_bars (n := n) (b := b) (s := n - 1) (trace := List.replicate c (wholeT n) ++ List.replicate ((n + b - 1) / b + 1).toNat (wholeT n)) (stop := p.1) (by omega) h0 (by omega) (by rw [hU]; dsimp only; omega)
  rw [hU] at this
  exact this
theorem burst_at {n b : Int} {c q : Nat} {stop : Int} {i : Nat} (hi : (i : Int) < stop) : (longM (List.replicate c (wholeT n)) ([wholeT n] ++ List.replicate q ⟨[]⟩) stop).getD i ⟨[]⟩ = if i < c ∨ (i - c) % (q + 1) = 0 then wholeT n else ⟨[]⟩ := by
  rw [long_at (by simp) hi, List.length_replicate]
  by_cases h : i < c
  · rw [if_pos h, if_pos (.inl h)]; exact rep_getD h
  · have hl : ([wholeT n] ++ List.replicate q (⟨[]⟩ : Tp Int)).length = q + 1 := by simp
    rw [if_neg h, hl]
    have hlt := Nat.mod_lt (i - c) (show 0 < q + 1 by omega)
    generalize (i - c) % (q + 1) = r at *
    cases r with
    | zero => rw [if_pos (.inr rfl)]; rfl
    | succ r =>
      rw [if_neg (by omega)]
      show (List.replicate q (⟨[]⟩ : Tp Int)).getD r ⟨[]⟩ = _
      exact rep_getD (by omega)
theorem k26_burst {n b quiet : Int} {c : Nat} (hn : 0 < n) (hb : 0 < b) (hq0 : (n + b - 1) / b - 1 ≤ quiet) :
    (quiet < (n + b - 1) / b → ∃ ts, everM n (List.replicate c (wholeT n)) ([wholeT n] ++ List.replicate quiet.toNat ⟨[]⟩) b 0 = .inr (Str.ofString "never", ts)) ∧
    ((n + b - 1) / b ≤ quiet → ∃ cs, everM n (List.replicate c (wholeT n)) ([wholeT n] ++ List.replicate quiet.toNat ⟨[]⟩) b 0 = .inl ⟨Str.ofString "stop", c + 1 + (n + b - 1) / b, cs⟩) := by
  have hl := long_bd hn hb
  have hcl : ∀ e : Int, (n + b - 1) / b ≤ e ↔ n ≤ b * e := fun e => ceil_le hb
  generalize hL : (n + b - 1) / b = L at *
  have hm : manyM n (List.replicate c (wholeT n)) ([wholeT n] ++ List.replicate quiet.toNat ⟨[]⟩) b = c + (1 + quiet) + L := by
    unfold manyM
    rw [List.length_replicate, List.length_append, List.length_replicate, List.length_singleton, hL]
    omega
  unfold everM
  rw [hm]
  generalize hT : longM (List.replicate c (wholeT n)) ([wholeT n] ++ List.replicate quiet.toNat ⟨[]⟩) (c + (1 + quiet) + L) = T
  have hat : ∀ i : Nat, (i : Int) < c + (1 + quiet) + L → T.getD i ⟨[]⟩ = if i < c ∨ (i - c) % (quiet.toNat + 1) = 0 then wholeT n else ⟨[]⟩ := fun i hi => by rw [← hT]; exact burst_at (b := b) hi
  have h1 : ∀ j : Int, 0 ≤ j → j ≤ c → (leastM n T b j).1 = n := fun j h0 h1 => by
    rw [least_now hn hb h0 fun q => by rw [hat _ (by omega), if_pos (.inl (by omega))]]
  have h2 : ∀ e : Int, 0 ≤ e → e ≤ quiet → e < quiet + L → (leastM n T b (c + 1 + e)).1 = max 0 (n - b * e) := fun e h0 h1 h3 => by
    rw [least_since (p := c) hn hb (by omega) (by omega) (fun _ => by rw [hat _ (by omega), if_pos (.inr (by rw [show ((c : Int).toNat - c) = 0 by omega, Nat.zero_mod]))]) fun i a d => by
      rw [hat _ (by omega), if_neg (fun hh => by
        rcases hh with hh | hh
        · omega
        · rw [Nat.mod_eq_of_lt (by omega)] at hh; omega)]]
    rw [show (c : Int) + 1 + e - c - 1 = e by omega]
  refine ⟨fun hlt => ?_, fun hge => ?_⟩
  · have hq : quiet = L - 1 := by omega
    have h3 : ∀ e : Int, 0 ≤ e → e < L - 1 → (leastM n T b (c + L + 1 + e)).1 = max 0 (n - b * e) := fun e h0 h1 => by
      have e1 : quiet.toNat + 1 = L.toNat := by omega
      rw [least_since (p := c + L) hn hb (by omega) (by omega) (fun _ => by
        rw [hat _ (by omega), if_pos (.inr (by rw [show ((c : Int) + L).toNat - c = L.toNat by omega, e1, Nat.mod_self]))]) fun i a d => by
        rw [hat _ (by omega), if_neg (fun hh => by
          rcases hh with hh | hh
          · omega
          · rw [e1, Nat.mod_eq_sub_mod (by omega), Nat.mod_eq_of_lt (by omega)] at hh; omega)]]
      rw [show (c : Int) + L + 1 + e - (c + L) - 1 = e by omega]
    refine ⟨_, scan_all fun j h0 hj => ?_⟩
    by_cases q1 : j ≤ c
    · rw [h1 j h0 q1]; exact hn
    · by_cases q2 : j ≤ c + L
      · have := h2 (j - c - 1) (by omega) (by omega) (by omega)
        rw [show (c : Int) + 1 + (j - c - 1) = j by omega] at this
        rw [this]
        have := mt (hcl (j - c - 1)).mpr (by omega)
        omega
      · have := h3 (j - c - L - 1) (by omega) (by omega)
        rw [show (c : Int) + L + 1 + (j - c - L - 1) = j by omega] at this
        rw [this]
        have := mt (hcl (j - c - L - 1)).mpr (by omega)
        omega
  · refine ⟨_, scan_stop (m0 := c + 1 + L) (by omega) (by omega) (fun j h0 hj => ?_) ?_⟩
    · by_cases q1 : j ≤ c
      · rw [h1 j h0 q1]; exact hn
      · have := h2 (j - c - 1) (by omega) (by omega) (by omega)
        rw [show (c : Int) + 1 + (j - c - 1) = j by omega] at this
        rw [this]
        have := mt (hcl (j - c - 1)).mpr (by omega)
        omega
    · rw [h2 L (by omega) hge (by omega)]
      have := (hcl L).mp (Int.le_refl _)
      omega
theorem len_due_all (lasts : List Int) : (dueM lasts lasts.length).length = lasts.length := by
  unfold dueM cutL
  have hl : ((srt2 ((enumI lasts).map fun x => (x.2, x.1))).map fun x => x.2).length = lasts.length := by rw [List.length_map, (srt2_perm _).length_eq, List.length_map, len_enumI]
  rw [List.length_take, List.length_drop, hl, HT.sIx_none, HT.sIx_nat]
  omega
theorem k26_quiet {n b : Int} {c : Nat} (hn : 0 < n) (hb : 0 < b) : ∃ cs : List (Int × Int), everM n (List.replicate c (wholeT n)) [⟨[]⟩] b 0 = .inl ⟨Str.ofString "stop", c + (n + b - 1) / b, cs⟩ ∧ (cs.length : Int) = n := by
  have hl := long_bd hn hb
  have hcl : ∀ e : Int, (n + b - 1) / b ≤ e ↔ n ≤ b * e := fun e => ceil_le hb
  generalize hL : (n + b - 1) / b = L at *
  have hm : manyM n (List.replicate c (wholeT n)) [⟨[]⟩] b = c + 1 + L := by
    unfold manyM
    rw [List.length_replicate, List.length_singleton, hL]
    rfl
  unfold everM
  rw [hm]
  generalize hT : longM (List.replicate c (wholeT n)) [⟨[]⟩] (c + 1 + L) = T
  have hat : ∀ i : Nat, (i : Int) < c + 1 + L → T.getD i ⟨[]⟩ = if i < c then wholeT n else ⟨[]⟩ := fun i hi => by
    rw [← hT, long_at (by simp) hi, List.length_replicate]
    by_cases h : i < c
    · rw [if_pos h, if_pos h]; exact rep_getD h
    · rw [if_neg h, if_neg h, List.length_singleton, Nat.mod_one]; rfl
  have h2 : ∀ e : Int, 0 ≤ e → e ≤ L → (leastM n T b (c + e)).1 = max 0 (n - b * e) := fun e h0 h1 => by
    rw [least_since (p := c - 1) hn hb (by omega) (by omega) (fun _ => by rw [hat _ (by omega), if_pos (by omega)]) fun i a d => by rw [hat _ (by omega), if_neg (by omega)]]
    rw [show (c : Int) + e - (c - 1) - 1 = e by omega]
  refine ⟨_, scan_stop (m0 := c + L) (by omega) (by omega) (fun j h0 hj => ?_) ?_, ?_⟩
  · by_cases q1 : j ≤ c
    · rw [least_now hn hb h0 fun q => by rw [hat _ (by omega), if_pos (by omega)]]
      exact hn
    · have := h2 (j - c) (by omega) (by omega)
      rw [show (c : Int) + (j - c) = j by omega] at this
      rw [this]
      have := mt (hcl (j - c)).mpr (by omega)
      omega
  · rw [h2 L (by omega) (Int.le_refl _)]
    have := (hcl L).mp (Int.le_refl _)
    omega
  · rw [(srt2_perm _).length_eq, plc_len, List.length_reverse]
    have e := len_due_all (lastsM n T (c + L))
    rw [len_lasts] at e
    rw [show max 0 (n - 0) = ((n.toNat : Nat) : Int) by omega, e]
    omega
theorem trok_of {n : Int} {T : List (Tp Int)} (hn : n ≤ 1000) (hl : T.length ≤ 100000) (h : ∀ t ∈ T, t = wholeT n ∨ t = ⟨[]⟩) : TrOk T := ⟨hl, fun t ht s hs => by
  rcases h t ht with e | e
  · rw [e] at hs
    have := mem_rng.mp hs
    omega
  · rw [e] at hs
    simp at hs⟩
instance {α β γ : Type} [Inhabited α] [Inhabited β] [Inhabited γ] : Inhabited (T3 α β γ) := ⟨⟨default, default, default⟩⟩
end GL

namespace GL
open PySem PySem.Spec PyProof.Rows L2
theorem cop_other {b tick x : Int} : ∀ {l : List (Int × Int)} {d : Dct Int}, x ∉ l.map (·.2) → ((l.foldl (rdCop b tick) d).get? x) = d.get? x
  | [], _, _ => rfl
  | p :: l, d, h => by
    rw [List.map_cons, List.mem_cons] at h
    rw [List.foldl_cons, cop_other (l := l) fun q => h (.inr q)]
    unfold rdCop
    rw [Dct.get?_put, if_neg fun q => h (.inl q)]
theorem cop_this {b tick : Int} : ∀ {l : List (Int × Int)} {d : Dct Int}, (l.map (·.2)).Nodup → ∀ p ∈ l, ((l.foldl (rdCop b tick) d).get? p.2) = some (tick + p.1 / b)
  | [], _, _, p, h => by simp at h
  | q :: l, d, hn, p, h => by
    rw [List.map_cons, List.nodup_cons] at hn
    rw [List.foldl_cons]
    rcases List.mem_cons.mp h with e | e
    · subst e
      rw [cop_other hn.1]
      unfold rdCop
      rw [Dct.get?_put, if_pos rfl]
    · exact cop_this hn.2 p e
theorem cop_at {b tick : Int} {xs : List Int} {d : Dct Int} (hn : xs.Nodup) {i : Nat} {x : Int} (h : xs[i]? = some x) : (((enumI xs).foldl (rdCop b tick) d).get? x) = some (tick + (i : Int) / b) :=
  cop_this (p := ((i : Int), x)) (by rw [enumI_snd]; exact hn) (mem_enumI.mpr ⟨by simp, by simpa using h⟩)
theorem cop_rng {b tick n x : Int} {d : Dct Int} (h0 : 0 ≤ x) (h1 : x < n) : dix ((enumI (rng 0 n)).foldl (rdCop b tick) d) x = tick + x / b := by
  have h := cop_at (b := b) (tick := tick) (d := d) (rng_nodup 0 n) (i := x.toNat) (x := x) (by rw [rng_get (by omega)]; congr 1; omega)
  rw [dix_of h]
  congr 2
  omega
theorem due_eq (n tick : Int) (trace : List (Tp Int)) (c : Dct Int) : rdDue n trace c tick = (rng 0 n).filter fun x => match lastN trace tick.toNat x with | some t => decide (dix c x ≤ t) | none => false := by
  unfold rdDue
  rw [List.map_id']
  apply List.filter_congr
  intro x _
  unfold dix
  rw [writtenIn_get]
  cases lastN trace tick.toNat x <;> rfl
theorem filter_all {α : Type} {l : List α} {f : α → Bool} (h : ∀ x ∈ l, f x = true) : l.filter f = l := List.filter_eq_self.mpr h
theorem filter_none {α : Type} {l : List α} {f : α → Bool} (h : ∀ x ∈ l, f x = false) : l.filter f = [] := List.filter_eq_nil_iff.mpr fun x hx => by rw [h x hx]; decide
/-- just one is in it -/
theorem filter_one {n s : Int} (h0 : 0 ≤ s) (h1 : s < n) {f : Int → Bool} (hs : f s = true) (ho : ∀ x, x ≠ s → f x = false) : (rng 0 n).filter f = [s] := by
  have h : ∀ m : Nat, ((rng 0 (m : Int)).filter f) = if s < (m : Int) then [s] else [] := by
    intro m
    induction m with
    | zero => rw [rng_nil (by omega), if_neg (by omega)]; rfl
    | succ m ih =>
      rw [show ((m + 1 : Nat) : Int) = (m : Int) + 1 by omega, rng_succ (by omega), List.filter_append, ih, List.filter_cons, List.filter_nil]
      by_cases e : (m : Int) = s
      · rw [e, if_neg (by omega), if_pos hs, if_pos (by omega)]
        rfl
      · rw [if_neg (show ¬ f (m : Int) = true by rw [ho _ e]; decide)]
        by_cases q : s < (m : Int)
        · rw [if_pos q, if_pos (by omega)]
          rfl
        · rw [if_neg q, if_neg (by omega)]
          rfl
  have := h n.toNat
  rw [show ((n.toNat : Nat) : Int) = n by omega, if_pos h1] at this
  exact this
/-! a trace in which all are written -/
theorem flat_one {α : Type} (x : α) : ∀ m : Nat, (List.replicate m [x]).flatten = List.replicate m x
  | 0 => rfl
  | m + 1 => by rw [List.replicate_succ, List.flatten_cons, flat_one x m]; rfl
theorem last_all {n x : Int} {m k : Nat} (h0 : 0 ≤ x) (h1 : x < n) (hk : 0 < k) (hm : k ≤ m) : lastN (List.replicate m (⟨rng 0 n⟩ : Tp Int)) k x = some ((k : Int) - 1) := by
  cases k with
  | zero => omega
  | succ k =>
    rw [lastN, if_pos]
    · congr 1
      omega
    · rw [List.getD_eq_getElem?_getD, List.getElem?_replicate, if_pos (by omega)]
      exact mem_rng.mpr ⟨h0, h1⟩
theorem last_nil (x : Int) : ∀ k, lastN [] k x = none
  | 0 => rfl
  | k + 1 => by
    rw [lastN, last_nil x k, if_neg]
    show ¬ x ∈ ([] : List Int)
    simp
theorem last_one {sheet x : Int} {beat : Nat} : ∀ k : Nat, lastN (List.replicate beat (⟨[]⟩ : Tp Int) ++ [⟨[sheet]⟩]) k x = if x = sheet ∧ beat < k then some (beat : Int) else none
  | 0 => by rw [if_neg (by omega)]; rfl
  | k + 1 => by
    rw [lastN, last_one k]
    have e : ((List.replicate beat (⟨[]⟩ : Tp Int) ++ [(⟨[sheet]⟩ : Tp Int)] : List (Tp Int)).getD k ⟨[]⟩).l = if k = beat then [sheet] else [] := by
      rw [List.getD_eq_getElem?_getD]
      by_cases h : k < beat
      · rw [List.getElem?_append_left (by rw [List.length_replicate]; exact h), List.getElem?_replicate, if_pos h, if_neg (by omega)]
        rfl
      · rw [List.getElem?_append_right (by rw [List.length_replicate]; omega), List.length_replicate]
        by_cases h2 : k = beat
        · subst h2
          rw [Nat.sub_self, if_pos rfl]
          rfl
        · rw [List.getElem?_eq_none (by show 1 ≤ k - beat; omega), if_neg h2]
          rfl
    rw [e]
    by_cases h : k = beat
    · subst h
      rw [if_pos rfl]
      by_cases hx : x = sheet
      · subst hx
        rw [if_pos (by simp), if_pos ⟨rfl, by omega⟩]
      · rw [if_neg (by simpa using hx), if_neg (by omega), if_neg (by omega)]
    · rw [if_neg h, if_neg (by simp)]
      by_cases hx : x = sheet ∧ beat < k
      · rw [if_pos hx, if_pos ⟨hx.1, by omega⟩]
      · rw [if_neg hx, if_neg (by omega)]
theorem div_lt {x n b : Int} (h0 : 0 ≤ x) (h1 : x < n) (hb : 1 ≤ b) : x / b ≤ (n + b - 1) / b - 1 := by
  have e : (n + b - 1) / b = (n - 1) / b + 1 := by
    rw [show n + b - 1 = (n - 1) + b * 1 by omega, Int.add_mul_ediv_left _ _ (by omega)]
  rw [e]
  have := Int.ediv_le_ediv (a := x) (b := n - 1) (c := b) (by omega) (by omega)
  omega
theorem long_pos {n b : Int} (h : 1 ≤ n) (hb : 1 ≤ b) : 1 ≤ (n + b - 1) / b := by
  have := div_lt (x := 0) (n := n) (b := b) (by omega) (by omega) hb
  rw [Int.zero_ediv] at this
  omega
theorem len_rng0 {n : Int} (h : 0 ≤ n) : ((rng 0 n).length : Int) = n := by
  rw [len_rng]
  omega
theorem rng_ne {n : Int} (h : 1 ≤ n) : rng 0 n ≠ [] := fun e => by
  have := congrArg List.length e
  rw [len_rng] at this
  simp at this
  omega
theorem whl_step {τ ρ : Type} {c : τ → Bool} {body : τ → Fl τ ρ} {k : τ → ρ} {n : Nat} {s s' : τ} (hc : c s = true) (hb : body s = .nx s') : whl c body k (n + 1) s = whl c body k n s' := by
  rw [whl, if_pos hc, hb]
theorem whl_stop {τ ρ : Type} {c : τ → Bool} {body : τ → Fl τ ρ} {k : τ → ρ} {n : Nat} {s : τ} (hc : c s = false) : whl c body k n s = k s := by
  cases n with
  | zero => rfl
  | succ n => rw [whl, if_neg (by rw [hc]; decide)]
section
variable {n b most : Int} (hn : 1 ≤ n) (hb : 1 ≤ b)
include hn hb
/-- one round over all sheets -/
theorem rdN_all {trace : List (Tp Int)} {found : List (Int × Tp Int)} {c : Dct Int} {tick : Int} : rdN n trace b (found, c, tick, rng 0 n) = (found ++ [(tick, ⟨rng 0 n⟩)], (enumI (rng 0 n)).foldl (rdCop b tick) c, tick + (n + b - 1) / b,
    (rng 0 n).filter fun x => match lastN trace (tick + (n + b - 1) / b).toNat x with | some t => decide (tick + x / b ≤ t) | none => false) := by
  unfold rdN
  dsimp only
  rw [len_rng0 (by omega), due_eq]
  congr 3
  apply List.filter_congr
  intro x hx
  rw [mem_rng] at hx
  rw [cop_rng hx.1 hx.2]
theorem rounds_all (hm : 1 ≤ most) : roundsM n (List.replicate ((n + b - 1) / b * most).toNat (⟨rng 0 n⟩ : Tp Int)) b (n - 1) most = ⟨(rng 0 most).map fun x => ((n + b - 1) / b * x, ⟨rng 0 n⟩), (n + b - 1) / b * most, ⟨rng 0 n⟩⟩ := by
  have hl := long_pos hn hb
  have main : ∀ (j : Nat) (k : Nat) (c : Dct Int), j + k = most.toNat → whl (rdC most (n - 1)) (rdB n (List.replicate ((n + b - 1) / b * most).toNat (⟨rng 0 n⟩ : Tp Int)) b) rdK k ((rng 0 (j : Int)).map (fun x => ((n + b - 1) / b * x, (⟨rng 0 n⟩ : Tp Int))), c, (n + b - 1) / b * (j : Int), rng 0 n) =
      ⟨(rng 0 most).map fun x => ((n + b - 1) / b * x, ⟨rng 0 n⟩), (n + b - 1) / b * most, ⟨rng 0 n⟩⟩ := by
    intro j k
    induction k generalizing j with
    | zero =>
      intro c e
      rw [whl]
      unfold rdK
      have : (j : Int) = most := by omega
      rw [this]
    | succ k ih =>
      intro c e
      have hc : rdC most (n - 1) ((rng 0 (j : Int)).map (fun x => ((n + b - 1) / b * x, (⟨rng 0 n⟩ : Tp Int))), c, (n + b - 1) / b * (j : Int), rng 0 n) = true := by
        unfold rdC
        dsimp only
        rw [List.length_map, len_rng0 (by omega), len_rng0 (by omega), decide_eq_false (rng_ne hn), decide_eq_true (show (j : Int) < most by omega), decide_eq_true (show n - 1 < n by omega)]
        simp
      rw [whl_step hc (s' := ((rng 0 ((j + 1 : Nat) : Int)).map (fun x => ((n + b - 1) / b * x, (⟨rng 0 n⟩ : Tp Int))), (enumI (rng 0 n)).foldl (rdCop b ((n + b - 1) / b * (j : Int))) c, (n + b - 1) / b * ((j + 1 : Nat) : Int), rng 0 n)) ?_]
      · exact ih (j + 1) _ (by omega)
      · unfold rdB
        rw [rdN_all hn hb]
        congr 1
        have et : (n + b - 1) / b * (j : Int) + (n + b - 1) / b = (n + b - 1) / b * ((j + 1 : Nat) : Int) := by
          rw [show ((j + 1 : Nat) : Int) = (j : Int) + 1 by omega, Int.mul_add, Int.mul_one]
        rw [et]
        congr 1
        · rw [show ((j + 1 : Nat) : Int) = (j : Int) + 1 by omega, rng_succ (by omega), List.map_append]
          rfl
        · congr 2
          apply filter_all
          intro x hx
          rw [mem_rng] at hx
          have h1 : (n + b - 1) / b * ((j + 1 : Nat) : Int) ≤ (n + b - 1) / b * most := Int.mul_le_mul_of_nonneg_left (by omega) (by omega)
          have h2 : 1 ≤ (n + b - 1) / b * ((j + 1 : Nat) : Int) := by
            have h3 : (n + b - 1) / b * 1 ≤ (n + b - 1) / b * ((j + 1 : Nat) : Int) := Int.mul_le_mul_of_nonneg_left (by omega) (by omega)
            omega
          rw [last_all hx.1 hx.2 (by omega) (by omega)]
          apply decide_eq_true
          have := div_lt hx.1 hx.2 hb
          omega
  have := main 0 most.toNat Dct.emp (by omega)
  rw [show ((0 : Nat) : Int) = 0 from rfl, Int.mul_zero, rng_nil (Int.le_refl 0), List.map_nil] at this
  unfold roundsM
  exact this
theorem first_round {trace : List (Tp Int)} {sl : Int} (hm : 1 ≤ most) : roundsM n trace b sl most = whl (rdC most sl) (rdB n trace b) rdK (most.toNat - 1) ([(0, ⟨rng 0 n⟩)], (enumI (rng 0 n)).foldl (rdCop b 0) Dct.emp, (n + b - 1) / b,
    (rng 0 n).filter fun x => match lastN trace ((n + b - 1) / b).toNat x with | some t => decide (x / b ≤ t) | none => false) := by
  unfold roundsM
  obtain ⟨k, hk⟩ : ∃ k, most.toNat = k + 1 := ⟨most.toNat - 1, by omega⟩
  rw [hk, Nat.add_sub_cancel]
  apply whl_step
  · unfold rdC
    dsimp only
    rw [decide_eq_false (rng_ne hn), List.length_nil, decide_eq_true (show ((0 : Nat) : Int) < most by omega)]
    simp
  · unfold rdB
    rw [rdN_all hn hb, Int.zero_add]
    congr 4
    apply List.filter_congr
    intro x _
    cases lastN trace ((n + b - 1) / b).toNat x with
    | none => rfl
    | some t => simp
theorem rounds_allLeft {m : Nat} (hm : 1 ≤ most) (hk : ((n + b - 1) / b).toNat ≤ m) : roundsM n (List.replicate m (⟨rng 0 n⟩ : Tp Int)) b n most = ⟨[(0, ⟨rng 0 n⟩)], (n + b - 1) / b, ⟨rng 0 n⟩⟩ := by
  have hl := long_pos hn hb
  rw [first_round hn hb hm]
  have e : ((rng 0 n).filter fun x => match lastN (List.replicate m (⟨rng 0 n⟩ : Tp Int)) ((n + b - 1) / b).toNat x with | some t => decide (x / b ≤ t) | none => false) = rng 0 n := by
    apply filter_all
    intro x hx
    rw [mem_rng] at hx
    rw [last_all hx.1 hx.2 (by omega) hk]
    apply decide_eq_true
    have := div_lt hx.1 hx.2 hb
    omega
  rw [e, whl_stop]
  · rfl
  · unfold rdC
    dsimp only
    rw [len_rng0 (by omega), decide_eq_false (Int.lt_irrefl n)]
    simp
theorem rounds_nil (hm : 1 ≤ most) : roundsM n [] b 0 most = ⟨[(0, ⟨rng 0 n⟩)], (n + b - 1) / b, ⟨[]⟩⟩ := by
  rw [first_round hn hb hm]
  have e : ((rng 0 n).filter fun x => match lastN [] ((n + b - 1) / b).toNat x with | some t => decide (x / b ≤ t) | none => false) = [] := by
    apply filter_none
    intro x _
    rw [last_nil]
  rw [e, whl_stop]
  · rfl
  · unfold rdC
    simp
theorem one_due {sheet : Int} {beat : Nat} (h0 : 0 ≤ sheet) (h1 : sheet < n) : ((rng 0 n).filter fun x => match lastN (List.replicate beat (⟨[]⟩ : Tp Int) ++ [⟨[sheet]⟩]) ((n + b - 1) / b).toNat x with | some t => decide (x / b ≤ t) | none => false) =
    if sheet / b ≤ (beat : Int) ∧ (beat : Int) < (n + b - 1) / b then [sheet] else [] := by
  by_cases h : sheet / b ≤ (beat : Int) ∧ (beat : Int) < (n + b - 1) / b
  · rw [if_pos h]
    refine filter_one h0 h1 ?_ fun x hx => ?_
    · rw [last_one, if_pos ⟨rfl, by omega⟩]
      exact decide_eq_true h.1
    · rw [last_one, if_neg fun q => hx q.1]
  · rw [if_neg h]
    apply filter_none
    intro x hx
    rw [last_one]
    by_cases q : x = sheet ∧ beat < ((n + b - 1) / b).toNat
    · rw [if_pos q]
      apply decide_eq_false
      rw [q.1]
      omega
    · rw [if_neg q]
theorem rounds_one1 {sheet : Int} {beat : Nat} (h0 : 0 ≤ sheet) (h1 : sheet < n) : roundsM n (List.replicate beat (⟨[]⟩ : Tp Int) ++ [⟨[sheet]⟩]) b 0 1 = ⟨[(0, ⟨rng 0 n⟩)], (n + b - 1) / b, ⟨if sheet / b ≤ (beat : Int) ∧ (beat : Int) < (n + b - 1) / b then [sheet] else []⟩⟩ := by
  rw [first_round hn hb (by omega), one_due hn hb h0 h1, whl_stop]
  · rfl
  · unfold rdC
    simp
theorem rounds_one2 {sheet : Int} {beat : Nat} (h0 : 0 ≤ sheet) (h1 : sheet < n) : roundsM n (List.replicate beat (⟨[]⟩ : Tp Int) ++ [⟨[sheet]⟩]) b 0 2 =
    if sheet / b ≤ (beat : Int) ∧ (beat : Int) < (n + b - 1) / b then ⟨[(0, ⟨rng 0 n⟩), ((n + b - 1) / b, ⟨[sheet]⟩)], (n + b - 1) / b + 1, ⟨[]⟩⟩ else ⟨[(0, ⟨rng 0 n⟩)], (n + b - 1) / b, ⟨[]⟩⟩ := by
  have hl := long_pos hn hb
  rw [first_round hn hb (by omega), one_due hn hb h0 h1]
  by_cases h : sheet / b ≤ (beat : Int) ∧ (beat : Int) < (n + b - 1) / b
  · rw [if_pos h, if_pos h]
    rw [show (2 : Int).toNat - 1 = 0 + 1 from rfl]
    have hone : ((([sheet] : List Int).length : Int) + b - 1) / b = 1 := by
      rw [show (([sheet] : List Int).length : Int) + b - 1 = b by simp; omega]
      exact Int.ediv_self (by omega)
    have hd : ∀ c : Dct Int, rdDue n (List.replicate beat (⟨[]⟩ : Tp Int) ++ [⟨[sheet]⟩]) ((enumI [sheet]).foldl (rdCop b ((n + b - 1) / b)) c) ((n + b - 1) / b + 1) = [] := by
      intro c
      rw [due_eq]
      apply filter_none
      intro x hx
      rw [last_one]
      by_cases q : x = sheet ∧ beat < ((n + b - 1) / b + 1).toNat
      · rw [if_pos q]
        apply decide_eq_false
        have := cop_at (b := b) (tick := (n + b - 1) / b) (xs := [sheet]) (d := c) (by simp) (i := 0) (x := sheet) rfl
        rw [q.1, dix_of this]
        have h0' : ((0 : Nat) : Int) / b = 0 := Int.zero_ediv b
        rw [h0']
        omega
      · rw [if_neg q]
    rw [whl_step (s' := ([(0, ⟨rng 0 n⟩), ((n + b - 1) / b, ⟨[sheet]⟩)], (enumI [sheet]).foldl (rdCop b ((n + b - 1) / b)) ((enumI (rng 0 n)).foldl (rdCop b 0) Dct.emp), (n + b - 1) / b + 1, []))]
    · rfl
    · unfold rdC
      simp
    · unfold rdB rdN
      dsimp only
      rw [hone, hd]
      rfl
  · rw [if_neg h, if_neg h, whl_stop]
    · rfl
    · unfold rdC
      simp
end
end GL

namespace GL
open PySem PySem.Spec PyProof.Rows L2
theorem lastN_lt10 (T : List (Tp Int)) (x : Int) : ∀ k : Nat, (lastN T k x).getD (-1) < k
  | 0 => by show (-1 : Int) < 0; omega
  | k + 1 => by
    rw [lastN]
    split
    · show (k : Int) < ((k + 1 : Nat) : Int); omega
    · have := lastN_lt10 T x k; omega
theorem lastW_lt {T : List (Tp Int)} {k x : Int} (h : 0 ≤ k) : lastW T k x < k := by
  have := lastN_lt10 T x k.toNat
  unfold lastW
  omega
theorem lastW_next {T : List (Tp Int)} {k x : Int} (h : 0 ≤ k) : lastW T (k + 1) x = if x ∈ (T.getD k.toNat ⟨[]⟩).l then k else lastW T k x := by
  unfold lastW
  rw [show (k + 1).toNat = k.toNat + 1 by omega, lastN]
  split
  · show ((k.toNat : Nat) : Int) = k; omega
  · rfl
/-- the sheets that are over there as they are now -/
structure Fr (T : List (Tp Int)) (fresh : Dct Bool) (cop : Dct Int) (beat : Int) : Prop where
  iff : ∀ x, (fresh.get? x).isSome = true ↔ ∃ c, cop.get? x = some c ∧ lastW T beat x < c
  le : ∀ x c, cop.get? x = some c → 0 ≤ c ∧ c ≤ beat
  ok : fresh.Ok 1000
theorem Fr.start (T : List (Tp Int)) : Fr T Dct.emp Dct.emp 0 := ⟨fun x => ⟨fun h => absurd h Bool.false_ne_true, fun ⟨c, h, _⟩ => (nomatch h)⟩, fun x c h => (nomatch h), Dct.Ok.emp⟩
theorem Fr.put {T : List (Tp Int)} {fresh : Dct Bool} {cop : Dct Int} {beat x : Int} (h : Fr T fresh cop beat) (h0 : 0 ≤ beat) (hx : 0 ≤ x ∧ x < 1000) : Fr T (fresh.put x true) (cop.put x beat) beat := by
  refine ⟨fun y => ?_, fun y c hc => ?_, h.ok.put _ hx⟩
  · rw [Dct.get?_put, Dct.get?_put]
    by_cases e : y = x
    · rw [if_pos e, if_pos e]
      exact ⟨fun _ => ⟨beat, rfl, lastW_lt h0⟩, fun _ => rfl⟩
    · rw [if_neg e, if_neg e]
      exact h.iff y
  · rw [Dct.get?_put] at hc
    by_cases e : y = x
    · rw [if_pos e] at hc
      have : beat = c := Option.some.inj hc
      omega
    · rw [if_neg e] at hc
      exact h.le y c hc
theorem get?_dels (x : Int) : ∀ (l : List Int) (d : Dct Bool), (l.foldl (fun f y => f.del y) d).get? x = if x ∈ l then none else d.get? x
  | [], d => by simp
  | y :: l, d => by
    rw [List.foldl_cons, get?_dels x l, Dct.get?_del]
    by_cases h : x ∈ l
    · rw [if_pos h, if_pos (List.mem_cons_of_mem _ h)]
    · rw [if_neg h]
      by_cases e : x = y
      · rw [if_pos e, if_pos (by rw [e]; exact List.mem_cons_self)]
      · rw [if_neg e, if_neg (fun q => (List.mem_cons.mp q).elim e h)]
theorem dels_ok : ∀ (l : List Int) {d : Dct Bool}, d.Ok 1000 → (l.foldl (fun f y => f.del y) d).Ok 1000
  | [], d, h => h
  | y :: l, d, h => dels_ok l (h.del y)
theorem Fr.row {T : List (Tp Int)} {fresh : Dct Bool} {cop : Dct Int} {beat : Int} (h : Fr T fresh cop beat) (h0 : 0 ≤ beat) : Fr T ((T.getD beat.toNat ⟨[]⟩).l.foldl (fun f y => f.del y) fresh) cop (beat + 1) := by
  refine ⟨fun y => ?_, fun y c hc => by have := h.le y c hc; omega, dels_ok _ h.ok⟩
  rw [get?_dels, lastW_next h0]
  by_cases e : y ∈ (T.getD beat.toNat ⟨[]⟩).l
  · rw [if_pos e, if_pos e]
    refine ⟨fun z => absurd z Bool.false_ne_true, fun ⟨c, hc, q⟩ => ?_⟩
    have := h.le y c hc
    omega
  · rw [if_neg e, if_neg e]
    exact h.iff y
theorem row_at {T : List (Tp Int)} {beat : Int} (h0 : 0 ≤ beat) : ix (T ++ (List.replicate (beat + 1).toNat [(⟨[]⟩ : Tp Int)]).flatten) beat = T.getD beat.toNat ⟨[]⟩ := by
  rw [flat_one]
  unfold ix
  rw [List.getD_eq_getElem?_getD, List.getD_eq_getElem?_getD]
  by_cases h : beat.toNat < T.length
  · rw [List.getElem?_append_left h]
    cases e : T[beat.toNat]? with
    | none => rw [List.getElem?_eq_none_iff] at e; omega
    | some t => rfl
  · rw [List.getElem?_append_right (by omega), List.getElem?_replicate, if_pos (by omega), List.getElem?_eq_none (by omega)]
    rfl
/-- within a beat: q of those that wait are copied -/
structure DuT (T : List (Tp Int)) (b tick : Int) (W : List Int) (cop0 : Dct Int) (beat : Int) (q : Nat) (fresh : Dct Bool) (waits : List Int) : Prop where
  w : waits = W.drop q
  f : Fr T fresh (((enumI W).take q).foldl (rdCop b tick) cop0) beat
theorem enum_take {W : List Int} {q : Nat} (h : q < W.length) : (enumI W).take (q + 1) = (enumI W).take q ++ [((q : Int), W[q])] := by
  rw [List.take_add_one]
  congr 1
  unfold enumI
  rw [List.getElem?_map, List.getElem?_zipIdx, List.getElem?_eq_getElem h]
  simp
theorem DuT.next {T : List (Tp Int)} {b tick : Int} {W : List Int} {cop0 : Dct Int} {beat : Int} {q : Nat} {fresh : Dct Bool} {waits : List Int} (I : DuT T b tick W cop0 beat q fresh waits) (hW : ∀ x ∈ W, 0 ≤ x ∧ x < 1000) (h0 : 0 ≤ beat) (hq : q < W.length) (hj : tick + (q : Int) / b = beat) : DuT T b tick W cop0 beat (q + 1) (fresh.put (ix waits 0) true) (waits.drop 1) := by
  have e : ix waits 0 = W[q] := by
    rw [I.w]
    unfold ix
    rw [List.getD_eq_getElem?_getD, show (0 : Int).toNat = 0 from rfl, List.getElem?_drop, Nat.add_zero, List.getElem?_eq_getElem hq]
    rfl
  refine ⟨by rw [I.w, List.drop_drop], ?_⟩
  rw [enum_take hq, List.foldl_append, List.foldl_cons, List.foldl_nil, e]
  show Fr T _ (Dct.put _ W[q] (tick + (q : Int) / b)) beat
  rw [hj]
  exact I.f.put h0 (hW _ (List.getElem_mem hq))
/-- between two beats -/
def DuI (T : List (Tp Int)) (b tick : Int) (W : List Int) (cop0 : Dct Int) (st : Dct Bool × Int × List Int) : Prop :=
  ∃ j p : Nat, st.2.1 = tick + j ∧ p ≤ W.length ∧ p ≤ j * b.toNat ∧ (p < W.length → p = j * b.toNat) ∧ (0 < j → (j - 1) * b.toNat < W.length) ∧ DuT T b tick W cop0 st.2.1 p st.1 st.2.2
theorem DuI.start {T : List (Tp Int)} {b tick : Int} {W : List Int} {cop0 : Dct Int} {fresh : Dct Bool} (h : Fr T fresh cop0 tick) : DuI T b tick W cop0 (fresh, tick, W) :=
  ⟨0, 0, by show tick = tick + ((0 : Nat) : Int); omega, Nat.zero_le _, by omega, fun _ => by omega, fun h => absurd h (by omega), ⟨rfl, h⟩⟩
theorem DuI.fin {T : List (Tp Int)} {b tick : Int} {W : List Int} {cop0 : Dct Int} {fresh : Dct Bool} {beat : Int} {waits : List Int} (I : DuI T b tick W cop0 (fresh, beat, waits)) (hb : 1 ≤ b) (hW : W ≠ []) (hw : waits = []) : beat = tick + ((W.length : Int) + b - 1) / b ∧ Fr T fresh ((enumI W).foldl (rdCop b tick) cop0) beat := by
  obtain ⟨j, p, e, h1, h2, h3, h4, h5⟩ := I
  dsimp only at e h5
  have hp : p = W.length := by
    have := h5.w
    rw [hw] at this
    have := congrArg List.length this
    rw [List.length_drop, List.length_nil] at this
    omega
  have hl : 0 < W.length := List.length_pos_iff.mpr hW
  have hj : 0 < j := Nat.pos_of_ne_zero fun z => by rw [z, Nat.zero_mul] at h2; omega
  have h6 := h4 hj
  have hbn : ((b.toNat : Nat) : Int) = b := by omega
  have a1 : ((W.length : Int) + b - 1) / b ≤ j := (ceil_le (by omega)).mpr (by
    rw [hp] at h2
    have : ((W.length : Nat) : Int) ≤ ((j * b.toNat : Nat) : Int) := by omega
    rw [Int.natCast_mul, hbn, Int.mul_comm] at this
    exact this)
  have a2 : ¬ ((W.length : Int) + b - 1) / b ≤ j - 1 := fun z => by
    have := (ceil_le (n := (W.length : Int)) (b := b) (j := (j : Int) - 1) (by omega)).mp z
    have h7 : (((j - 1) * b.toNat : Nat) : Int) < ((W.length : Nat) : Int) := by omega
    rw [Int.natCast_mul, hbn, Int.mul_comm, show ((j - 1 : Nat) : Int) = (j : Int) - 1 by omega] at h7
    omega
  refine ⟨by omega, ?_⟩
  have h8 := h5.f
  rw [hp, ← len_enumI, List.take_length] at h8
  exact h8
theorem DuI.step {T : List (Tp Int)} {b tick : Int} {W : List Int} {cop0 : Dct Int} {beat : Int} {j p m : Nat} {fresh : Dct Bool} {waits : List Int} (hb : 1 ≤ b) (h0 : 0 ≤ beat) (e : beat = tick + j) (hp : p < W.length) (hpj : p = j * b.toNat) (hm : (m : Int) = min b ((W.length - p : Nat) : Int)) (I : DuT T b tick W cop0 beat (p + m) fresh waits) :
    DuI T b tick W cop0 ((T.getD beat.toNat ⟨[]⟩).l.foldl (fun f y => f.del y) fresh, beat + 1, waits) := by
  have hs : (j + 1) * b.toNat = j * b.toNat + b.toNat := Nat.succ_mul j b.toNat
  refine ⟨j + 1, p + m, by show beat + 1 = tick + ((j + 1 : Nat) : Int); omega, by omega, by omega, fun z => by omega, fun _ => by rw [Nat.add_sub_cancel]; omega, ⟨I.w, I.f.row h0⟩⟩
theorem beat_at {j t : Nat} {b : Int} (hb : 1 ≤ b) (ht : (t : Int) < b) : ((j * b.toNat + t : Nat) : Int) / b = j := by
  have hbn : ((b.toNat : Nat) : Int) = b := by omega
  rw [Int.natCast_add, Int.natCast_mul, hbn, Int.add_comm, Int.add_mul_ediv_right _ _ (by omega), Int.ediv_eq_zero_of_lt (by omega) ht]
  omega
/-- between two rounds -/
def DoI (n : Int) (T : List (Tp Int)) (b s most : Int) (st : Dct Bool × List (Int × Tp Int) × Int × List Int) : Prop :=
  ∃ (m : Nat) (cop : Dct Int), roundsM n T b s most = whl (rdC most s) (rdB n T b) rdK m (st.2.1, cop, st.2.2.1, st.2.2.2) ∧ RdI n b most (st.2.1, cop, st.2.2.1, st.2.2.2) ∧ most ≤ st.2.1.length + m ∧ Fr T st.1 cop st.2.2.1 ∧ (st.2.1 = [] → st.2.2.2 ≠ [])
def dueC (most s : Int) (st : Dct Bool × List (Int × Tp Int) × Int × List Int) : Bool := decide (st.2.1 = []) || (decide ((st.2.1.length : Int) < most) && decide (s < (st.2.2.2.length : Int)))
theorem dueC_eq {most s : Int} {fresh : Dct Bool} {found : List (Int × Tp Int)} {cop : Dct Int} {beat : Int} {waits : List Int} (hm : 1 ≤ most) (hs : 0 ≤ s) (h : found = [] → waits ≠ []) : dueC most s (fresh, found, beat, waits) = rdC most s (found, cop, beat, waits) := by
  unfold dueC rdC
  dsimp only
  by_cases hf : found = []
  · have h1 := h hf
    rw [decide_eq_true hf, decide_eq_false h1, hf, decide_eq_true (show ((([] : List (Int × Tp Int)).length : Nat) : Int) < most by simp; omega)]
    rfl
  · rw [decide_eq_false hf, Bool.false_or, Bool.false_or]
    by_cases hw : waits = []
    · rw [decide_eq_true hw, hw, decide_eq_false (show ¬ s < ((([] : List Int).length : Nat) : Int) by simp; omega), Bool.and_false]
      rfl
    · rw [decide_eq_false hw]
      rfl
theorem DoI.start {n : Int} {T : List (Tp Int)} {b s most : Int} (hn : 1 ≤ n) (hm : 1 ≤ most) : DoI n T b s most (Dct.emp, [], 0, rng 0 n) :=
  ⟨most.toNat, Dct.emp, by unfold roundsM; rfl, RdI.start (by omega), by show most ≤ ((([] : List (Int × Tp Int)).length : Nat) : Int) + (most.toNat : Int); simp; omega, Fr.start T, fun _ z => by
    have := congrArg List.length z
    rw [len_rng] at this
    simp at this
    omega⟩
theorem due_law {n tick : Int} {T : List (Tp Int)} {fresh : Dct Bool} {cop : Dct Int} (h : Fr T fresh cop tick) (hc : ∀ x, 0 ≤ x → x < n → (cop.get? x).isSome = true) : (rng 0 n).filter (fun x => !(fresh.get? x).isSome) = rdDue n T cop tick := by
  unfold rdDue
  rw [List.map_id']
  apply List.filter_congr
  intro x hx
  have hx' := mem_rng.mp hx
  obtain ⟨c, hcx⟩ := Option.isSome_iff_exists.mp (hc x hx'.1 hx'.2)
  have hd : dix cop x = c := dix_of hcx
  have h1 := h.iff x
  have h2 := h.le x c hcx
  have h3 := lastG T tick x
  rw [hd]
  cases e : (writtenIn T 0 tick).get? x with
  | none =>
    rw [e] at h3
    have h4 : lastW T tick x = -1 := h3.symm
    have : (fresh.get? x).isSome = true := h1.mpr ⟨c, hcx, by omega⟩
    rw [this]
    rfl
  | some t =>
    rw [e] at h3
    have h4 : t = lastW T tick x := h3
    have h5 : dix (writtenIn T 0 tick) x = t := dix_of e
    rw [h5]
    by_cases q : t < c
    · rw [h1.mpr ⟨c, hcx, by omega⟩, decide_eq_false (by omega)]
      rfl
    · have : (fresh.get? x).isSome = false := Bool.eq_false_iff.mpr fun z => by
        obtain ⟨c', e1, e2⟩ := h1.mp z
        rw [hcx] at e1
        cases e1
        omega
      rw [this, decide_eq_true (by omega)]
      rfl
theorem DoI.next {n : Int} {T : List (Tp Int)} {b s most : Int} {fresh fresh' : Dct Bool} {found : List (Int × Tp Int)} {beat beat' : Int} {waits : List Int} {m : Nat} {cop : Dct Int} (P : RdP n T b most)
    (h1 : roundsM n T b s most = whl (rdC most s) (rdB n T b) rdK m (found, cop, beat, waits)) (h2 : RdI n b most (found, cop, beat, waits)) (h3 : most ≤ found.length + m) (hc : rdC most s (found, cop, beat, waits) = true)
    (hb : beat' = beat + ((waits.length : Int) + b - 1) / b) (hf : Fr T fresh' ((enumI waits).foldl (rdCop b beat) cop) beat') :
    DoI n T b s most (fresh', found ++ [(beat, ⟨waits⟩)], beat', (rng 0 n).filter (fun x => !(fresh'.get? x).isSome)) := by
  have hlt := rdC_lt hc
  dsimp only at hlt
  have e : rdN n T b (found, cop, beat, waits) = (found ++ [(beat, ⟨waits⟩)], (enumI waits).foldl (rdCop b beat) cop, beat', (rng 0 n).filter (fun x => !(fresh'.get? x).isSome)) := by
    rw [due_law hf fun x x0 x1 => h2.covered x0 x1]
    subst hb
    rfl
  cases m with
  | zero => omega
  | succ m =>
    refine ⟨m, (enumI waits).foldl (rdCop b beat) cop, ?_, ?_, ?_, hf, fun z => absurd z (by simp)⟩
    · have := whl_nx h1 hc rfl
      rw [e] at this
      exact this
    · have := h2.next P
      rw [e] at this
      exact this
    · show most ≤ (((found ++ [(beat, (⟨waits⟩ : Tp Int))]).length : Nat) : Int) + (m : Int)
      rw [List.length_append, List.length_singleton]
      omega
theorem k10_ix (z : Spr) : (0 : Int) ≤ ix ([30, 30, 30, 240] : List Int) (lawCup z 4).1 ∧ ix ([30, 30, 30, 240] : List Int) (lawCup z 4).1 ≤ 240 := ix_all (xs := ([30, 30, 30, 240] : List Int)) (P := fun y : Int => 0 ≤ y ∧ y ≤ 240) (by decide) (cup_bd z (m := 4) (by decide))
theorem k10_most (z : Spr) : (1 : Int) ≤ ix ([1, 2, 3, 20] : List Int) (lawCup z 4).1 ∧ ix ([1, 2, 3, 20] : List Int) (lawCup z 4).1 ≤ 20 := ix_all (xs := ([1, 2, 3, 20] : List Int)) (P := fun y : Int => 1 ≤ y ∧ y ≤ 20) (by decide) (cup_bd z (m := 4) (by decide))
end GL

namespace GL
open PySem PySem.Spec PyProof.Rows L2
variable {C : Addr}
/-! ### a carried program goes as the run does -/
theorem get?_delL (x : Int) (l : List Int) (d : Dct Bool) : (l.foldl Dct.del d).get? x = if x ∈ l then none else d.get? x := get?_dels x l d
def NoLack (z : Car C) : Prop := ∀ p, (z.absent.get? p).isSome = false
theorem noLack_emp {z : Car C} (h : z.absent.l = []) : NoLack z := fun p => by
  unfold Dct.get?
  rw [h]
  rfl
theorem noLack_lks {z : Car C} (h : NoLack z) : lksM z = [] := by
  unfold lksM
  split
  · rfl
  · rw [List.filter_eq_nil_iff]
    intro p _
    rw [h p]
    decide
theorem tickC_goes {z : Car C} (h0 : z.still = false) (h1 : lksM z = []) : tickC z = (⟨(tickM z.g z.st z.wait).b, [(tickM z.g z.st z.wait).c]⟩, wentM z (tickM z.g z.st z.wait)) := (tick_end h0 h1 rfl rfl).symm
theorem tickC_still {z : Car C} (h0 : z.still = true) : tickC z = (⟨Str.ofString "still", []⟩, z) := by
  unfold tickC
  rw [if_pos h0]
theorem tickC_lacks {z : Car C} (h0 : z.still = false) (h1 : lksM z ≠ []) : tickC z = (⟨Str.ofString "lacks", [some (ix (lksM z) 0)]⟩, z) := (tick_lacks h0 rfl h1).symm
/-- so many ticks of the run are done, letters up to av lie there -/
structure CarRun (g : Prog) (s : Stand) (l : Lets) (t av : Int) (z : Car C) : Prop where
  gg : z.g = g
  st : z.st = (runF g s l (rng 0 t)).2.1
  wait : z.wait = (availM l av).drop (runF g s l (rng 0 t)).1.toNat
  done : z.done = t
  sl : (z.said.length : Int) ≤ t
theorem CarRun.ok {g : Prog} {s : Stand} {l : Lets} {t av : Int} {z : Car C} (h : CarRun g s l t av z) (hg : ProgOk g) (hs : StandOk g s) (hl : LetsOk g l) (ht : t ≤ 100000) : CarOk z := by
  obtain ⟨h1, h2, h3, h4, h5⟩ := h
  have ha := avail_ok hl av (runF g s l (rng 0 t)).1.toNat
  exact ⟨by rw [h1]; exact hg, by rw [h1, h2]; exact (run_ok hg hs hl _).1, by rw [h1, h3]; exact ha.1, by rw [h3]; exact ha.2, by omega⟩
theorem run_next {g : Prog} {s : Stand} {l : Lets} {t : Int} (ht : 0 ≤ t) : runF g s l (rng 0 (t + 1)) = runStep g l (runF g s l (rng 0 t)) t := by rw [rng_succ ht, run_snoc]
theorem CarRun.went {g : Prog} {s : Stand} {l : Lets} {t : Int} {z : Car C} (h : CarRun g s l t t z) (ht : 0 ≤ t) (h0 : ((runF g s l (rng 0 t)).1) ≥ 0) : CarRun g s l (t + 1) t (wentM z (tickM z.g z.st z.wait)) := by
  obtain ⟨h1, h2, h3, h4, h5⟩ := h
  have e : tickM z.g z.st z.wait = tickM g (runF g s l (rng 0 t)).2.1 ((availM l t).drop (runF g s l (rng 0 t)).1.toNat) := by rw [h1, h2, h3]
  refine ⟨h1, ?_, ?_, ?_, ?_⟩
  · rw [run_next ht, runStep_stand, ← e]
    rfl
  · rw [run_next ht, runStep_used, ← e]
    show (if decide ((tickM z.g z.st z.wait).b = Str.ofString "took") = true then z.wait.drop 1 else z.wait) = _
    split
    · rw [h3, List.drop_drop]
      congr 1
      omega
    · rw [Int.add_zero, h3]
  · show z.done + 1 = t + 1
    rw [h4]
  · show ((if decide ((tickM z.g z.st z.wait).b = Str.ofString "said") = true then z.said ++ [(tickM z.g z.st z.wait).c.getD default] else z.said).length : Int) ≤ t + 1
    split
    · rw [List.length_append]
      show ((z.said.length + 1 : Nat) : Int) ≤ t + 1
      omega
    · omega
/-! ### what is fresh over there -/
def lastC (cps : List (Int × Int)) (p : Int) : Option Int := ((cps.filter fun c => decide (c.2 = p)).map (·.1)).getLast?
def freshB (cps : List (Int × Int)) (tou : Tou) (p : Int) : Bool := match lastC cps p with
  | none => false
  | some k => ((rng k tou.length).filter fun j => decide (p ∈ (ix tou j).2.l)).isEmpty
theorem lastC_same {cps : List (Int × Int)} {t p : Int} : lastC (cps ++ [(t, p)]) p = some t := by
  unfold lastC
  rw [List.filter_append, List.filter_cons, if_pos (by simp), List.filter_nil, List.map_append]
  simp
theorem lastC_other {cps : List (Int × Int)} {t p q : Int} (h : p ≠ q) : lastC (cps ++ [(t, p)]) q = lastC cps q := by
  unfold lastC
  rw [List.filter_append, List.filter_cons, if_neg (by simp [h]), List.filter_nil, List.append_nil]
theorem lastC_mem {cps : List (Int × Int)} {p k : Int} (h : lastC cps p = some k) : (k, p) ∈ cps := by
  unfold lastC at h
  have := List.mem_of_getLast? h
  obtain ⟨c, hc, e⟩ := List.mem_map.mp this
  have h2 := List.mem_filter.mp hc
  have e2 : c.2 = p := by simpa using h2.2
  rw [← e, ← e2]
  exact h2.1
theorem fresh_copy {cps : List (Int × Int)} {tou : Tou} {t p q : Int} (ht : t = tou.length) : freshB (cps ++ [(t, p)]) tou q = (decide (q = p) || freshB cps tou q) := by
  by_cases e : q = p
  · subst e
    unfold freshB
    rw [lastC_same, ht]
    dsimp only
    rw [rng_nil (Int.le_refl _)]
    simp
  · unfold freshB
    rw [lastC_other (fun z => e z.symm), decide_eq_false e]
    rfl
theorem fresh_tick {cps : List (Int × Int)} {tou : Tou} {x : Tp Int × Tp Int} {p : Int} (h : ∀ c ∈ cps, 0 ≤ c.1 ∧ c.1 ≤ tou.length) : freshB cps (tou ++ [x]) p = (freshB cps tou p && !decide (p ∈ x.2.l)) := by
  unfold freshB
  cases e : lastC cps p with
  | none => rfl
  | some k =>
    have hk := h _ (lastC_mem e)
    dsimp only at hk ⊢
    rw [List.length_append, show ((tou.length + [x].length : Nat) : Int) = (tou.length : Int) + 1 by simp, rng_succ hk.2, List.filter_append]
    have e1 : (rng k tou.length).filter (fun j => decide (p ∈ (ix (tou ++ [x]) j).2.l)) = (rng k tou.length).filter (fun j => decide (p ∈ (ix tou j).2.l)) := by
      refine List.filter_congr fun j hj => ?_
      have hj' := mem_rng.mp hj
      unfold ix
      rw [List.getD_eq_getElem?_getD, List.getD_eq_getElem?_getD, List.getElem?_append_left (by omega)]
    have e2 : ix (tou ++ [x]) (tou.length : Int) = x := by
      unfold ix
      rw [List.getD_eq_getElem?_getD, Int.toNat_natCast, List.getElem?_append_right (Nat.le_refl _), Nat.sub_self]
      rfl
    rw [e1]
    by_cases c : p ∈ x.2.l
    · rw [List.filter_cons, e2, if_pos (by simpa using c), decide_eq_true c]
      simp
    · rw [List.filter_cons, e2, if_neg (by simpa using c), decide_eq_false c]
      simp
/-- a carrying goes on -/
structure Going (h : Int) (cps : List (Int × Int)) (tou : Tou) (z : Car C) : Prop where
  goal : z.goal = some h
  still : z.still = false
  ab : z.absent.l = []
  made : z.made = cps.length
  fr : ∀ p, (z.fresh.get? p).isSome = freshB cps tou p
  fl : z.fresh.l.length ≤ cps.length
theorem Going.copy {h : Int} {cps : List (Int × Int)} {tou : Tou} {z : Car C} {t p : Int} (k : Going h cps tou z) (ht : t = tou.length) : Going h (cps ++ [(t, p)]) tou (copyC z p) := by
  obtain ⟨h1, h2, h3, h4, h5, h6⟩ := k
  unfold copyC
  refine ⟨h1, h2, h3, ?_, fun q => ?_, ?_⟩
  · show z.made + 1 = _
    rw [h4, List.length_append]
    simp
  · show ((z.fresh.put p true).get? q).isSome = _
    rw [Dct.get?_put, fresh_copy ht, ← h5 q]
    by_cases e : q = p
    · rw [if_pos e, decide_eq_true e]; rfl
    · rw [if_neg e, decide_eq_false e]; rfl
  · have := put_len (d := z.fresh) (k := p) (x := true)
    rw [List.length_append]
    show (z.fresh.put p true).l.length ≤ cps.length + 1
    omega
theorem dels_len : ∀ (l : List Int) (d : Dct Bool), (l.foldl Dct.del d).l.length ≤ d.l.length
  | [], d => Nat.le_refl _
  | p :: l, d => Nat.le_trans (dels_len l (d.del p)) del_len
theorem Going.went {h : Int} {cps : List (Int × Int)} {tou : Tou} {z : Car C} {t : TickR} (k : Going h cps tou z) (hc : ∀ c ∈ cps, 0 ≤ c.1 ∧ c.1 ≤ tou.length) : Going h cps (tou ++ [(t.d, t.e)]) (wentM z t) := by
  obtain ⟨h1, h2, h3, h4, h5, h6⟩ := k
  refine ⟨h1, h2, ?_, h4, fun q => ?_, ?_⟩
  · show (t.e.l.foldl Dct.del z.absent).l = []
    have := dels_len t.e.l z.absent
    rw [h3] at this
    exact List.eq_nil_of_length_eq_zero (by simpa using this)
  · show ((t.e.l.foldl Dct.del z.fresh).get? q).isSome = _
    rw [get?_delL, fresh_tick hc, ← h5 q]
    by_cases e : q ∈ t.e.l
    · rw [if_pos e, decide_eq_true e]; simp
    · rw [if_neg e, decide_eq_false e]; simp
  · exact Nat.le_trans (dels_len _ _) h6
theorem run_tou {g : Prog} {s : Stand} {l : Lets} {t : Int} (ht : 0 ≤ t) : (runF g s l (rng 0 (t + 1))).2.2.2 = (runF g s l (rng 0 t)).2.2.2 ++ [((tickM g (runF g s l (rng 0 t)).2.1 ((availM l t).drop (runF g s l (rng 0 t)).1.toNat)).d, (tickM g (runF g s l (rng 0 t)).2.1 ((availM l t).drop (runF g s l (rng 0 t)).1.toNat)).e)] := by
  rw [run_next ht]
  unfold runStep
  rfl
theorem tou_lenI {g : Prog} {s : Stand} {l : Lets} {t : Int} (ht : 0 ≤ t) : ((runF g s l (rng 0 t)).2.2.2.length : Int) = t := by
  rw [(run_len _).1, len_rng]
  omega
/-- a tick of a carrying -/
theorem go_tick {g : Prog} {s : Stand} {l : Lets} {t h : Int} {cps : List (Int × Int)} {z : Car C} (hs : StandOk g s) (hg : ProgOk g) (hl : LetsOk g l) (ht : 0 ≤ t) (k1 : CarRun g s l t t z) (k2 : Going h cps (runF g s l (rng 0 t)).2.2.2 z) (hc : ∀ c ∈ cps, 0 ≤ c.1 ∧ c.1 ≤ t) :
    CarRun g s l (t + 1) t (tickC z).2 ∧ Going h cps (runF g s l (rng 0 (t + 1))).2.2.2 (tickC z).2 ∧ (tickC z).2.houses = z.houses ∧ (tickC z).2.place = z.place := by
  rw [tickC_goes k2.still (noLack_lks (noLack_emp k2.ab))]
  have e : tickM z.g z.st z.wait = tickM g (runF g s l (rng 0 t)).2.1 ((availM l t).drop (runF g s l (rng 0 t)).1.toNat) := by rw [k1.gg, k1.st, k1.wait]
  refine ⟨k1.went ht (run_ok hg hs hl _).2, ?_, rfl, rfl⟩
  rw [run_tou ht, ← e]
  refine k2.went fun c h => ?_
  have h1 := hc c h
  have h2 := tou_lenI (g := g) (s := s) (l := l) ht
  omega
theorem lf_eq {z : Car C} {cps : List (Int × Int)} {tou : Tou} {h : Int} (k : Going h cps tou z) : lfM z = (rng 0 z.g.a).filter fun p => !freshB cps tou p := by
  unfold lfM
  exact List.filter_congr fun p _ => by rw [k.fr p]
end GL

/-! Methods and defs that may refuse, over an owned thing that may come to stand elsewhere; a list's count of flat things. -/
namespace L2
open PySem PySem.Spec PyProof.Rows
section
variable {X : Cx}
/-- o.m(..), what is raised wished for at the caller's slots -/
def tMethW (C : Addr) (m : Str) (sp : Sp) (E : St → XK) (ta : TE) (t : TA) : TE := fun σ H Q => ta σ H fun x H1 => ∃ a dx fs, x = .ref a ∧ H1 a = some (.ins C dx fs) ∧ fs.lookup m = none ∧ t σ H1 fun vs H2 => sp (x :: vs) H2 Q (E σ)
theorem pe_methW {CX : CXT} {C f : Addr} {k : Nat} {m : Str} {fd : FuncData} {ps : List Str} {sp : Sp} {E : St → XK} {o e : Expr} {es : List Expr} {ta : TE} {t : TA} {apos pos : Pos} {pl : Sem Bool} (he : PE X o ta) (c : Cls X.K C) (hm : Meth X.K C m f)
    (F : FnOk X.prog X.w X.K X.mg X.base CX k f fd ps sp) (hr : Room k X.A) (hb : Binds X.K fd ps []) (hx : ∀ σ, PassesAt CX X σ (E σ)) (ha : PA X (e :: es) t)
    (hst : starEach (e :: es) X.env = (false, eval e X.env) :: starEach es X.env := by rfl) (hpl : (backTo pos (starEach es X.env)).any (·.1) = false := by rfl)
    (ht : eval (.Call (.Attribute o m apos) (e :: es) [] pos) X.env = (do
      let ov ← eval o X.env
      standAt apos.atName
      let (f, first) ← holding [ov] (getMethod ov m pl)
      callWith pos f first (backTo pos (starEach (e :: es) X.env)) (backToKw pos (keywordEach [] X.env))) := by rfl) :
    PE X (.Call (.Attribute o m apos) (e :: es) [] pos) (tMethW C m sp E ta t) := ⟨fun pins s σ H Q I h => by
  refine PySem.W.methodCall_KW (pl := pl) (thn (he.run pins s σ H _ I h) fun u s1 ⟨x, H1, I1, rx, a, dx, fs, ex, ea, l, q⟩ => ?_) ht
  subst ex
  cases rx
  refine getmeth_ok I1 ea c hm l (PySem.W.callWith_K (first := [.ref a]) (h₀ := s1.heap) I1.kIn hm.kp (thn (ha.run pos pins s1 σ H1 _ I1 q) fun us s2 ⟨vs, H2, I2, r2, q2⟩ => ⟨I2.kIn, ?_⟩) hst hpl)
  exact run_fnS (vs := .ref a :: vs) F hr hb (hx σ) I2 (.cons rfl r2) q2⟩
theorem pe_methW0 {CX : CXT} {C f : Addr} {k : Nat} {m : Str} {fd : FuncData} {ps : List Str} {sp : Sp} {E : St → XK} {o : Expr} {ta : TE} {apos pos : Pos} {pl : Sem Bool} (he : PE X o ta) (c : Cls X.K C) (hm : Meth X.K C m f)
    (F : FnOk X.prog X.w X.K X.mg X.base CX k f fd ps sp) (hr : Room k X.A) (hb : Binds X.K fd ps []) (hx : ∀ σ, PassesAt CX X σ (E σ))
    (ht : eval (.Call (.Attribute o m apos) [] [] pos) X.env = (do
      let ov ← eval o X.env
      standAt apos.atName
      let (f, first) ← holding [ov] (getMethod ov m pl)
      callWith pos f first (backTo pos (starEach [] X.env)) (backToKw pos (keywordEach [] X.env))) := by rfl) :
    PE X (.Call (.Attribute o m apos) [] [] pos) (tMethW C m sp E ta tNil) := ⟨fun pins s σ H Q I h => by
  refine PySem.W.methodCall_KW (pl := pl) (thn (he.run pins s σ H _ I h) fun u s1 ⟨x, H1, I1, rx, a, dx, fs, ex, ea, l, q⟩ => ?_) ht
  subst ex
  cases rx
  exact getmeth_ok I1 ea c hm l (PySem.W.callWith_K0 (first := [.ref a]) I1.kIn hm.kp (run_fnS (us := [.ref a]) (vs := [.ref a]) F hr hb (hx σ) I1 (.cons rfl .nil) q))⟩
/-- xs.count(y), flat things -/
def rCntV (K : PySem.W.Frag) : V → List V → Hp → VK → Prop := fun x xs H Q => ∃ (p : Addr) (ys : List V) (y : V), x = .ref p ∧ xs = [y] ∧ SqL K H p ys ∧ flatV y = true ∧ ys.all flatV = true ∧ Q (.int ((ys.countP fun z => eqV z y) : Nat)) H
theorem count_vals {y : V} : ∀ {ys : List V} {its : List Value}, Vals ys its → ys.all flatV = true → its.countP (eqU y) = ys.countP fun z => eqV z y
  | [], _, .nil, _ => rfl
  | z :: ys, _, .cons r rt, h => by
    rw [List.all_cons, Bool.and_eq_true] at h
    rw [List.countP_cons, List.countP_cons, count_vals rt h.2, eqU_of r h.1]
theorem mt_countV : MtR X "list.count" (rCntV X.K) := fun pins s σ H x xs v us Q I rx rxs h => by
  obtain ⟨p, ys, y, rfl, rfl, hs, fy, fys, q⟩ := h
  cases rx
  cases rxs with
  | cons ry rt =>
    rename_i uy ut
    cases rt
    obtain ⟨its, rv, ⟨⟨oc, od, data, sl⟩, n, e1, e2, e3, e4⟩, _⟩ := I.list hs
    simp only at e2 e4
    subst e2 e4
    refine call_meets PySem.F.slot_list_count ⟨_, e1, rfl⟩ PySem.F.entry_list_count (PySem.F.args_list_count_2 _ _) (SeqAt.list_countAt p its.toArray n od sl uy (eqU y)) ⟨e1, fun u' hu' => mem_eqAt ry fy rv fys u' (by simpa using hu'), ?_⟩
    refine ⟨.int ((ys.countP fun z => eqV z y) : Nat), H, I.tok _, ⟨s.toks, ?_⟩, q⟩
    show Value.int ((its.toArray.toList.countP (eqU y) : Nat) : Int) s.toks = _
    rw [List.toList_toArray, count_vals rv fys]
end
end L2
namespace GL
open PySem PySem.Spec PyProof.Rows L2
structure MCalX (P : Program) (w : World) (K : Fg) (mg : Str → Option Value) (base : Heap) (k : Nat) (C : Addr) (m : Str) (ps : List Str) (sp : Sp) : Prop where
  ex : ∃ (f : Addr) (fd : FuncData), Meth K C m f ∧ FnOk P w K mg base (L2.CX P w) k f fd ps sp ∧ Binds K fd ps []
theorem pe_mcalX {X : Cx} {j k : Nat} {C : Addr} {m : Str} {ps : List Str} {sp : Sp} {o e : Expr} {es : List Expr} {ta : TE} {t : TA} {apos pos : Pos} {pl : Sem Bool} {W : WX} (c : MCalX X.prog X.w X.K X.mg X.base k C m ps sp) (cl : Cls X.K C) (tk : Takes X W) (hr : Room j X.A) (hk : k ≤ j) (he : PE X o ta) (ha : PA X (e :: es) t)
    (hst : starEach (e :: es) X.env = (false, eval e X.env) :: starEach es X.env := by rfl) (hpl : (backTo pos (starEach es X.env)).any (·.1) = false := by rfl)
    (ht : eval (.Call (.Attribute o m apos) (e :: es) [] pos) X.env = (do
      let ov ← eval o X.env
      standAt apos.atName
      let (f, first) ← holding [ov] (getMethod ov m pl)
      callWith pos f first (backTo pos (starEach (e :: es) X.env)) (backToKw pos (keywordEach [] X.env))) := by rfl) :
    PE X (.Call (.Attribute o m apos) (e :: es) [] pos) (tMethW C m sp (WE W) ta t) := by
  obtain ⟨f, fd, a, b, d⟩ := c.ex
  exact pe_methW (pl := pl) he cl a b (hr.mono hk) d (fun σ => passAt tk σ) ha hst hpl ht
theorem pe_mcalX0 {X : Cx} {j k : Nat} {C : Addr} {m : Str} {ps : List Str} {sp : Sp} {o : Expr} {ta : TE} {apos pos : Pos} {pl : Sem Bool} {W : WX} (c : MCalX X.prog X.w X.K X.mg X.base k C m ps sp) (cl : Cls X.K C) (tk : Takes X W) (hr : Room j X.A) (hk : k ≤ j) (he : PE X o ta)
    (ht : eval (.Call (.Attribute o m apos) [] [] pos) X.env = (do
      let ov ← eval o X.env
      standAt apos.atName
      let (f, first) ← holding [ov] (getMethod ov m pl)
      callWith pos f first (backTo pos (starEach [] X.env)) (backToKw pos (keywordEach [] X.env))) := by rfl) :
    PE X (.Call (.Attribute o m apos) [] [] pos) (tMethW C m sp (WE W) ta tNil) := by
  obtain ⟨f, fd, a, b, d⟩ := c.ex
  exact pe_methW0 (pl := pl) he cl a b (hr.mono hk) d (fun σ => passAt tk σ) ht
/-- as spO, or a refusal, which changes nothing -/
def spOX {ω α β : Type} [Own ω] [PyA α] [Py β] (K : Fg) (Y : XC → Addr) (R : ω → α → β → ω → Prop) (Rf : ω → α → XC → Prop) (pre : ω → α → Prop) : Sp := fun vs H Q E => ∃ (S : Hp) (v0 : V) (ws : List V) (ps : List Addr) (z : ω) (a : α), vs = v0 :: ws ∧ Same S H ∧ Own.own K S H v0 ps z ∧
  (∀ p ∈ ps, S p = none ∧ ∃ o, H p = some o) ∧ PyA.rep K S ws a ∧ pre z a ∧
  (∀ v S' H' ps' y z', R z a y z' → Same S S' → Same S' H' → (∀ p o, p ∉ ps → H p = some o → H' p = some o) → (∀ p o, p ∉ ps → H p = some o → S' p = S p) →
    (∀ p ∈ ps', S' p = none ∧ (∃ o, H' p = some o) ∧ (p ∈ ps ∨ H p = none)) → Own.own K S' H' v0 ps' z' → Py.rep K S' v y → Q v H') ∧
  ∀ e S' H', Rf z a e → Same S S' → Same S' H' → (∀ p o, p ∉ ps → H p = some o → H' p = some o) → (∀ p o, p ∉ ps → H p = some o → S' p = S p) → (∀ p ∈ ps, S' p = none ∧ ∃ o, H' p = some o) → Own.own K S' H' v0 ps z → E (.ref (Y e)) none H'
section
variable {C : Addr} {K : Fg} {B S0 S1 S S' D : Hp} {σ : L2.St} {H H' : Hp} {F : Nat → List Addr} {G G' G1 G2 : List Sl} {ta te : TE} {i j : Nat} {t : TA} {u : TS} {E : Ends} {Ex : XK} {m : Str} {Y : XC → Addr} {W : WX}
variable {α β : Type} [PyA α] [Py β] {z z1 : Car C} {a : α} {R : Car C → α → β → Car C → Prop} {Rf : Car C → α → XC → Prop} {pre : Car C → α → Prop}
/-- what such a call comes to: a value at hand, or a refusal -/
theorem callOX {Q : VK} {EE : XK} {vs : List V} (k1 : Kn K B S0 S1 σ H F G1) (h1 : σ[i]? = some (some (.ref z.a))) (ez : z1.a = z.a) (hi1 : G1[i]? = some (.ow z1)) (r1 : PyA.rep K S1 vs a) (hp : pre z1 a)
    (ok : ∀ y z', R z1 a y z' → ∀ v S' H', Same S1 S' → Kn K B S0 S' σ H' (upF F i z'.fp) (G1.set i (.ow z')) → Py.rep K S' v y → Q v H') (er : ∀ e, Rf z1 a e → ∀ S' H', Kn K B S0 S' σ H' F G1 → EE (.ref (Y e)) none H') : spOX K Y R Rf pre (.ref z.a :: vs) H Q EE := by
  obtain ⟨v1, h3, h4⟩ := k1.ow hi1
  rw [h1] at h3
  cases h3
  refine ⟨S1, .ref z.a, vs, F i, z1, a, rfl, k1.sub, h4, fun p hp => ⟨(k1.off i p hp).1, (k1.off i p hp).2.2⟩, r1, hp, fun v S2 H2 ps' y z' hR s1 s2 hk hc hl ho r2 => ?_, fun e S2 H2 hf s1 s2 hk hc hl ho => ?_⟩
  · have ep : ps' = z'.fp := ho.2.1
    subst ep
    exact ok y z' hR v S2 H2 s1 (k1.moved hi1 h1 s1 s2 hk hc hl ho) r2
  · have k2 := k1.moved (z' := z1) hi1 h1 s1 s2 hk hc (fun p hp => ⟨(hl p hp).1, (hl p hp).2, .inl hp⟩) ho
    have eF : upF F i (F i) = F := by
      funext n
      by_cases c : n = i
      · rw [c, upF_self]
      · rw [upF_ne c]
    have eG : G1.set i (.ow z1) = G1 := by
      apply List.ext_getElem?
      intro n
      by_cases c : i = n
      · subst c
        rw [List.getElem?_set_self (List.getElem?_eq_some_iff.mp hi1).1, hi1]
      · rw [List.getElem?_set_ne c]
    rw [eF, eG] at k2
    exact er e hf S2 H2 k2
theorem q_methX (hm : m ∉ carK) (hi : G[i]? = some (.ow z)) (ha : EvA K t G a G) (hp : pre z a) (ok : ∀ y z', R z a y z' → At K B S0 (u E) (G.set i (.ow z'))) (er : ∀ e, Rf z a e → At K B S0 (W (.ref (Y e)) none) G) :
    At K B S0 (tSeq (tDrop (tMethW C m (spOX K Y R Rf pre) (WE W) (tVar i) t)) u E) G := fun S σ H F kn => by
  obtain ⟨h1, h2, dx, pv, sv, kf, kb, c⟩ := car_at kn hi
  exact ⟨.ref z.a, h1, z.a, dx, _, rfl, c.ob, look_none hm, ha B S0 S σ H F kn _ fun vs S1 H1 e1 k1 r1 => callOX k1 h1 rfl hi r1 hp (fun y z' hR v S' H' s k r => ok y z' hR S' σ H' _ k) fun e hf S' H' k => er e hf S' σ H' F k⟩
theorem q_retMX (hm : m ∉ carK) (hi : G[i]? = some (.ow z)) (ha : EvA K t G a G) (hp : pre z a) (ok : ∀ y z', R z a y z' → RT K B S0 E.rt y (G.set i (.ow z'))) (er : ∀ e, Rf z a e → At K B S0 (W (.ref (Y e)) none) G) :
    At K B S0 (tSeq (tRet (tMethW C m (spOX K Y R Rf pre) (WE W) (tVar i) t)) u E) G := fun S σ H F kn => by
  obtain ⟨h1, h2, dx, pv, sv, kf, kb, c⟩ := car_at kn hi
  exact ⟨.ref z.a, h1, z.a, dx, _, rfl, c.ob, look_none hm, ha B S0 S σ H F kn _ fun vs S1 H1 e1 k1 r1 => callOX k1 h1 rfl hi r1 hp (fun y z' hR v S' H' s k r => ok y z' hR S' σ H' _ v k r) fun e hf S' H' k => er e hf S' σ H' F k⟩
theorem q_setMX (l : Nat) (hm : m ∉ carK) (hi : G[i]? = some (.ow z)) (ha : EvA K t G a G) (hp : pre z a) (hl : ∀ z' : Car C, ((G.set i (.ow z'))[l]?).isSome = true) (ok : ∀ y z', R z a y z' → At K B S0 (u E) ((G.set i (.ow z')).set l (.im y))) (er : ∀ e, Rf z a e → At K B S0 (W (.ref (Y e)) none) G) :
    At K B S0 (tSeq (tAsg (tMethW C m (spOX K Y R Rf pre) (WE W) (tVar i) t) (gName l)) u E) G := fun S σ H F kn => by
  obtain ⟨h1, h2, dx, pv, sv, kf, kb, c⟩ := car_at kn hi
  exact ⟨.ref z.a, h1, z.a, dx, _, rfl, c.ob, look_none hm, ha B S0 S σ H F kn _ fun vs S1 H1 e1 k1 r1 => callOX k1 h1 rfl hi r1 hp (fun y z' hR v S' H' s k r => ok y z' hR S' _ H' _ (k.set r (hl z'))) fun e hf S' H' k => er e hf S' σ H' F k⟩
/-! defs over such a thing -/
theorem q_setOX (l : Nat) (hi : G[i]? = some (.ow z)) (ha : EvA K t G a G) (hp : pre z a) (hl : ∀ z' : Car C, ((G.set i (.ow z'))[l]?).isSome = true) (ok : ∀ y z', R z a y z' → At K B S0 (u E) ((G.set i (.ow z')).set l (.im y))) (er : ∀ e, Rf z a e → At K B S0 (W (.ref (Y e)) none) G) :
    At K B S0 (tSeq (tAsg (tCallS (spOX K Y R Rf pre) (WE W) (tCons (tVar i) t)) (gName l)) u E) G := fun S σ H F kn => by
  obtain ⟨h1, h2, dx, pv, sv, kf, kb, c⟩ := car_at kn hi
  exact ⟨.ref z.a, h1, ha B S0 S σ H F kn _ fun vs S1 H1 e1 k1 r1 => callOX k1 h1 rfl hi r1 hp (fun y z' hR v S' H' s k r => ok y z' hR S' _ H' _ (k.set r (hl z'))) fun e hf S' H' k => er e hf S' σ H' F k⟩
theorem q_setO (l : Nat) (hi : G[i]? = some (.ow z)) (ha : EvA K t G a G) (hp : pre z a) (hl : ∀ z' : Car C, ((G.set i (.ow z'))[l]?).isSome = true) (ok : ∀ y z', R z a y z' → At K B S0 (u E) ((G.set i (.ow z')).set l (.im y))) :
    At K B S0 (tSeq (tAsg (tCall (spO K R pre) [] Ex (tCons (tVar i) t)) (gName l)) u E) G := fun S σ H F kn => by
  obtain ⟨h1, h2, dx, pv, sv, kf, kb, c⟩ := car_at kn hi
  refine ⟨.ref z.a, h1, ha B S0 S σ H F kn _ fun vs S1 H1 e1 k1 r1 => ?_⟩
  show spO K R pre (.ref z.a :: vs ++ []) H1 _ Ex
  rw [List.append_nil]
  obtain ⟨v1, h3, h4⟩ := k1.ow hi
  rw [h1] at h3
  cases h3
  exact ⟨S1, .ref z.a, vs, F i, z, a, rfl, k1.sub, h4, fun p hp => ⟨(k1.off i p hp).1, (k1.off i p hp).2.2⟩, r1, hp, fun v S2 H2 ps' y z' hR s1 s2 hk hc hl' ho r2 => ok y z' hR S2 _ H2 _ ((k1.moved hi h1 s1 s2 hk hc hl' ho).set r2 (hl z'))⟩
end
section
variable {P : Program} {w : World} {K : Fg} {mg : Str → Option Value} {base : Heap} {α β : Type} [Sls α] [Py β] {C : Addr} {Y : XC → Addr}
/-- from a body to such a promise -/
theorem body_spOX {N : List Str} {R : Car C → α → β → Car C → Prop} {Rf : Car C → α → XC → Prop} {pre : Car C → α → Prop} {t : TS} {H : Hp} {vs : List V} {Q : VK} {E : XK} (sp : spOX K Y R Rf pre vs H Q E)
    (h2 : ∀ (z : Car C) (a : α), pre z a → ∀ (B S0 : Hp) (Q : VK), (∀ (G' : List Sl) y (z' : Car C), G'[0]? = some (.ow z') → z'.a = z.a → R z a y z' → RT K B S0 Q y G') → (∀ (G' : List Sl) e, G'[0]? = some (.ow z) → Rf z a e → At K B S0 (fun _ H' => E (.ref (Y e)) none H') G') →
      At K B S0 (t { nx := fun _ H' => Q .non H', rt := Q }) (.ow z :: Sls.sls a ++ List.replicate (N.length - (PyA.n α + 1)) .no)) : t { nx := fun _ H' => Q .non H', rt := Q } (L2.start N vs) H := by
  obtain ⟨S', v0, ws, qs, z, a, e, es, ho, hqs, r, hp, q, qe⟩ := sp
  subst e
  refine h2 z a hp _ S' Q (fun G' y z' hz ea hR S1 σ1 H1 F1 v k1 r1 => ?_) (fun G' x hz hf S1 σ1 H1 F1 k1 => ?_) S' _ H _ (start_knM (N := N) es ho hqs r)
  · obtain ⟨v1, _, o1⟩ := k1.ow hz
    have ev : v1 = v0 := by rw [o1.1, ho.1, ea]
    rw [ev] at o1
    refine q v S1 H1 (F1 0) y z' hR k1.s0 k1.sub (fun p o m e => k1.keep p o (by rw [if_neg m]; exact e)) (fun p o m e => k1.clean p o (by rw [if_neg m]; exact e)) (fun p m => ?_) o1 r1
    obtain ⟨a1, a2, a3⟩ := k1.off 0 p m
    refine ⟨a1, a3, ?_⟩
    by_cases c : p ∈ qs
    · exact .inl c
    · rw [if_neg c] at a2
      exact .inr a2
  · obtain ⟨v1, _, o1⟩ := k1.ow hz
    have ev : v1 = v0 := by rw [o1.1, ho.1]
    have eq : F1 0 = qs := by rw [o1.2.1, ho.2.1]
    rw [ev, eq] at o1
    refine qe x S1 H1 hf k1.s0 k1.sub (fun p o m e => k1.keep p o (by rw [if_neg m]; exact e)) (fun p o m e => k1.clean p o (by rw [if_neg m]; exact e)) (fun p m => ?_) o1
    obtain ⟨a1, a2, a3⟩ := k1.off 0 p (by rw [eq]; exact m)
    exact ⟨a1, a3⟩
theorem mdef_spOX {x q : Str} {st : Stmt} {N ps : List Str} {k : Nat} {R : Car C → α → β → Car C → Prop} {Rf : Car C → α → XC → Prop} {pre : Car C → α → Prop} (D : MDef K C x q st ps) (S : FnScope N ps (defScope st)) (hn : PyA.n α + 1 = ps.length)
    (h : ∀ (fa : Addr) (cdv : Value) (A : Around) (outer : List Env) (s : Shared) (H : Hp) (E : XK), Room k (A.deeper (envOfC q (defScope st) s.heap.objs.size fa cdv)) →
      ∃ t, PSs (cxOf (L2.CX P w) P w K mg base N q (defScope st) fa cdv A outer s H E) (defBody st) t ∧
        ∀ (z : Car C) (a : α), pre z a → ∀ (B S0 : Hp) (Q : VK), (∀ (G' : List Sl) y (z' : Car C), G'[0]? = some (.ow z') → z'.a = z.a → R z a y z' → RT K B S0 Q y G') → (∀ (G' : List Sl) e, G'[0]? = some (.ow z) → Rf z a e → At K B S0 (fun _ H' => E (.ref (Y e)) none H') G') →
          At K B S0 (t { nx := fun _ H' => Q .non H', rt := Q }) (.ow z :: Sls.sls a ++ List.replicate (N.length - (PyA.n α + 1)) .no)) :
    MCalX P w K mg base (k + 1) C x ps (spOX K Y R Rf pre) := by
  obtain ⟨fa, fd, m, Fu, b⟩ := D.ex
  refine ⟨fa, fd, m, Fu.okX S (fun vs H Q E ⟨S, v0, ws, qs, z, a, e, _, _, _, r, _⟩ => by rw [e, List.length_cons, PyA.len r]; exact hn) fun cdv A outer s H vs Q E hr sp => ?_, b⟩
  obtain ⟨t, h1, h2⟩ := h fa cdv A outer s H E hr
  exact ⟨t, h1, body_spOX sp h2⟩
theorem def_spOX {x : Str} {st : Stmt} {N ps : List Str} {k : Nat} {R : Car C → α → β → Car C → Prop} {Rf : Car C → α → XC → Prop} {pre : Car C → α → Prop} (D : Def K mg x st ps) (S : FnScope N ps (defScope st)) (hn : PyA.n α + 1 = ps.length)
    (h : ∀ (fa : Addr) (cdv : Value) (A : Around) (outer : List Env) (s : Shared) (H : Hp) (E : XK), Room k (A.deeper (envOfC x (defScope st) s.heap.objs.size fa cdv)) →
      ∃ t, PSs (cxOf (L2.CX P w) P w K mg base N x (defScope st) fa cdv A outer s H E) (defBody st) t ∧
        ∀ (z : Car C) (a : α), pre z a → ∀ (B S0 : Hp) (Q : VK), (∀ (G' : List Sl) y (z' : Car C), G'[0]? = some (.ow z') → z'.a = z.a → R z a y z' → RT K B S0 Q y G') → (∀ (G' : List Sl) e, G'[0]? = some (.ow z) → Rf z a e → At K B S0 (fun _ H' => E (.ref (Y e)) none H') G') →
          At K B S0 (t { nx := fun _ H' => Q .non H', rt := Q }) (.ow z :: Sls.sls a ++ List.replicate (N.length - (PyA.n α + 1)) .no)) :
    CalX P w K mg base (k + 1) x ps (spOX K Y R Rf pre) := by
  obtain ⟨fa, fd, m, Fu, b⟩ := D.ex
  refine ⟨fa, fd, m, Fu.okX S (fun vs H Q E ⟨S, v0, ws, qs, z, a, e, _, _, _, r, _⟩ => by rw [e, List.length_cons, PyA.len r]; exact hn) fun cdv A outer s H vs Q E hr sp => ?_, Fu.kp, b⟩
  obtain ⟨t, h1, h2⟩ := h fa cdv A outer s H E hr
  exact ⟨t, h1, body_spOX sp h2⟩
/-- a def that refuses nothing, over such a thing -/
theorem def_spO {x : Str} {st : Stmt} {N ps : List Str} {k : Nat} {R : Car C → α → β → Car C → Prop} {pre : Car C → α → Prop} (D : Def K mg x st ps) (S : FnScope N ps (defScope st)) (hn : PyA.n α + 1 = ps.length)
    (h : ∀ (fa : Addr) (cdv : Value) (A : Around) (outer : List Env) (s : Shared) (H : Hp) (E : XK), Room k (A.deeper (envOfC x (defScope st) s.heap.objs.size fa cdv)) →
      ∃ t, PSs (cxOf CX0 P w K mg base N x (defScope st) fa cdv A outer s H E).nox (defBody st) t ∧
        ∀ (z : Car C) (a : α), pre z a → ∀ (B S0 : Hp) (Q : VK), (∀ (G' : List Sl) y (z' : Car C), G'[0]? = some (.ow z') → z'.a = z.a → R z a y z' → RT K B S0 Q y G') → At K B S0 (t { nx := fun _ H' => Q .non H', rt := Q }) (.ow z :: Sls.sls a ++ List.replicate (N.length - (PyA.n α + 1)) .no)) :
    Cal P w K mg base (k + 1) x ps (spO K R pre) := by
  obtain ⟨fa, fd, m, Fu, b⟩ := D.ex
  refine ⟨fa, fd, m, Fu.ok S (fun vs H Q E ⟨S, v0, ws, qs, z, a, e, _, _, _, r, _⟩ => by rw [e, List.length_cons, PyA.len r]; exact hn) fun cdv A outer s H vs Q E hr ⟨S', v0, ws, qs, z, a, e, es, ho, hqs, r, hp, q⟩ => ?_, Fu.kp, b⟩
  obtain ⟨t, h1, h2⟩ := h fa cdv A outer s H E hr
  exact ⟨t, h1, body_spOX (Y := fun _ => 0) (Rf := fun _ _ _ => False) (E := E) ⟨S', v0, ws, qs, z, a, e, es, ho, hqs, r, hp, q, fun _ _ _ f => f.elim⟩ fun z a hp B S0 Q hret _ => h2 z a hp B S0 Q hret⟩
end
end GL

/-! Expressions of which only a word is known: calls told by a relation, within other expressions. -/
namespace GL
open PySem PySem.Spec PyProof.Rows L2
section
variable {α τ : Type}
def EvW [Py α] (K : Fg) (te : TE) (G : List Sl) (R : τ → Prop) (x : τ → α) (st : τ → List Sl) : Prop :=
  ∀ B S0 S σ H F, Kn K B S0 S σ H F G → ∀ Q : VK, (∀ w, R w → ∀ v S' H', Same S S' → Kn K B S0 S' σ H' F (st w) → Py.rep K S' v (x w) → Q v H') → te σ H Q
def EvAW [PyA α] (K : Fg) (ta : TA) (G : List Sl) (R : τ → Prop) (x : τ → α) (st : τ → List Sl) : Prop :=
  ∀ B S0 S σ H F, Kn K B S0 S σ H F G → ∀ Q : List V → Hp → Prop, (∀ w, R w → ∀ vs S' H', Same S S' → Kn K B S0 S' σ H' F (st w) → PyA.rep K S' vs (x w) → Q vs H') → ta σ H Q
def EvLsW [Py α] (K : Fg) (ta : TA) (G : List Sl) (R : τ → Prop) (x : τ → List α) (st : τ → List Sl) : Prop :=
  ∀ B S0 S σ H F, Kn K B S0 S σ H F G → ∀ Q : List V → Hp → Prop, (∀ w, R w → ∀ vs S' H', Same S S' → Kn K B S0 S' σ H' F (st w) → RepL K S' vs (x w) → Q vs H') → ta σ H Q
end
def EvTW {τ : Type} (K : Fg) (tt : TT) (G : List Sl) (R : τ → Prop) (b : τ → Bool) (st : τ → List Sl) : Prop :=
  ∀ B S0 S σ H F, Kn K B S0 S σ H F G → ∀ Q : Bool → Hp → Prop, (∀ w, R w → ∀ S' H', Same S S' → Kn K B S0 S' σ H' F (st w) → Q (b w) H') → tt σ H Q
/-- the promise of a def of which a relation is known; nothing else changes -/
def spQ {α β : Type} [PyA α] [Py β] (K : Fg) (R : α → β → Prop) (pre : α → Prop) : Sp := fun vs H Q _ => ∃ (S : Hp) (a : α), Same S H ∧ PyA.rep K S vs a ∧ pre a ∧ ∀ y v S' H', Grow S H S' H' → R a y → Py.rep K S' v y → Q v H'
section
variable {K : Fg} {B S0 S1 S S' D : Hp} {σ : L2.St} {H H' : Hp} {F : Nat → List Addr} {G G' G1 G2 G3 : List Sl} {ta tb tc te : TE} {i j : Nat} {t u w : TS} {E : Ends} {tt : TT} {g : TG} {X : XK}
variable {α β γ τ τ2 : Type}
section
variable [Py α] [Py β] {R : τ → Prop} {x : τ → α} {st : τ → List Sl} {y : α}
theorem ew_of (h : EvX K te G y G1) : EvW K te G (fun _ : Unit => True) (fun _ => y) (fun _ => G1) := fun B S0 S σ H F k Q q => h B S0 S σ H F k Q fun v S' H' e k' r => q () True.intro v S' H' e k' r
theorem eaw_of [PyA γ] {y : γ} {ta : TA} (h : EvA K ta G y G1) : EvAW K ta G (fun _ : Unit => True) (fun _ => y) (fun _ => G1) := fun B S0 S σ H F k Q q => h B S0 S σ H F k Q fun v S' H' e k' r => q () True.intro v S' H' e k' r
/-- a call told by a relation, the owned thing in slot j first -/
theorem ew_rel {ω : Type} [Own ω] [Anch ω] [PyA γ] {R : γ → β → Prop} {pre : γ → Prop} {z z1 : ω} {a : γ} {t : TA} (j : Nat) (hj : G[j]? = some (.ow z)) (ha : EvA K t G a G1) (hj1 : G1[j]? = some (.ow z1)) (hp : pre a) :
    EvW K (tCall (spR (ω := ω) K ω R pre) [] X (tCons (tVar j) t)) G (fun w : β × ω => R a w.1 ∧ Anch.fp w.2 = Anch.fp z1) (fun w => w.1) (fun w => G1.set j (.ow w.2)) := fun B S0 S σ H F kn Q q => by
  obtain ⟨v0, h1, h2⟩ := kn.ow hj
  refine ⟨v0, h1, ha B S0 S σ H F kn _ fun vs S1 H1 e1 k1 r1 => ?_⟩
  show spR (ω := ω) K ω R pre (v0 :: vs ++ []) H1 _ X
  rw [List.append_nil]
  obtain ⟨v1, h3, h4⟩ := k1.ow hj1
  rw [h1] at h3
  cases h3
  refine ⟨S1, v0, vs, F j, z1, a, rfl, k1.sub, h4, fun p hp => ⟨(k1.off j p hp).1, (k1.off j p hp).2.2⟩, r1, hp, fun v S2 H2 y z' hR hfp s1 s2 hk hc hl ho r2 => ?_⟩
  have hH : ∀ p o, p ∉ F j → H1 p = some o → H2 p = some o := hk
  refine q (y, z') ⟨hR, hfp⟩ v S2 H2 (e1.trans s1) ?_ r2
  refine ⟨k1.s0.trans s1, s2, fun p o e => ?_, fun p o e => (hc p o (k1.keep p o e)).trans (k1.clean p o e), fun i p hp => ?_, k1.dj, by rw [List.length_set]; exact k1.len, fun i s e => ?_⟩
  · exact hH p o (fun m => by rw [(k1.off j p m).2.1] at e; cases e) (k1.keep p o e)
  · obtain ⟨a1, a2, o, a3⟩ := k1.off i p hp
    refine ⟨(hc p o a3).trans a1, a2, ?_⟩
    by_cases m : p ∈ F j
    · exact hl p m
    · exact ⟨o, hH p o m a3⟩
  · rcases set_get e with ⟨rfl, rfl⟩ | ⟨ne, e⟩
    · exact ⟨v0, h1, ho⟩
    · have w := k1.sl i s e
      cases s with
      | no => exact True.intro
      | im y =>
        obtain ⟨u, b1, b2⟩ := w
        exact ⟨u, b1, Py.mono s1 b2⟩
      | ow y =>
        obtain ⟨u, b1, b2⟩ := w
        refine ⟨u, b1, Own.mono s1 (fun p hp => ?_) b2⟩
        obtain ⟨_, _, o, a3⟩ := k1.off i p hp
        rw [a3]
        exact hH p o (fun m => ne (k1.dj i j p hp m)) a3
theorem ew_callQ [PyA γ] {R : γ → β → Prop} {pre : γ → Prop} {a : γ} {t : TA} (ha : EvA K t G a G1) (hp : pre a) :
    EvW K (tCall (spQ K R pre) [] X t) G (fun w : β => R a w) (fun w => w) (fun _ => G1) := fun B S0 S σ H F kn Q q => by
  refine ha B S0 S σ H F kn _ fun vs S1 H1 e1 k1 r1 => ?_
  show spQ K R pre (vs ++ []) H1 _ X
  rw [List.append_nil]
  exact ⟨S1, a, k1.sub, r1, hp, fun y v S2 H2 g hR r2 => q y hR v S2 H2 (e1.trans g.s) (k1.grow g) r2⟩
theorem ew_callQW [PyA γ] {R : τ → Prop} {x : τ → γ} {R2 : γ → β → Prop} {pre : γ → Prop} {t : TA} (ha : EvAW K t G R x st) (hp : ∀ w, R w → pre (x w)) :
    EvW K (tCall (spQ K R2 pre) [] X t) G (fun w : τ × β => R w.1 ∧ R2 (x w.1) w.2) (fun w => w.2) (fun w => st w.1) := fun B S0 S σ H F kn Q q => by
  refine ha B S0 S σ H F kn _ fun w hw vs S1 H1 e1 k1 r1 => ?_
  show spQ K R2 pre (vs ++ []) H1 _ X
  rw [List.append_nil]
  exact ⟨S1, x w, k1.sub, r1, hp w hw, fun y v S2 H2 g hR r2 => q (w, y) ⟨hw, hR⟩ v S2 H2 (e1.trans g.s) (k1.grow g) r2⟩
/-- arguments, the last of which is so -/
theorem eaw_last (h : EvW K ta G R x st) : EvAW K (tCons ta tNil) G R (fun w => (x w, ())) st := fun B S0 S σ H F k Q q =>
  h B S0 S σ H F k _ fun w hw v S1 H1 e1 k1 r1 => q w hw [v] S1 H1 e1 k1 ⟨v, [], rfl, r1, rfl⟩
theorem eaw_cons [PyA γ] {R : τ → Prop} {x : τ → γ} {tr : TA} (h : EvX K ta G y G1) (hr : EvAW K tr G1 R x st) : EvAW K (tCons ta tr) G R (fun w => (y, x w)) st := fun B S0 S σ H F k Q q =>
  h B S0 S σ H F k _ fun v S1 H1 e1 k1 r1 => hr B S0 S1 σ H1 F k1 _ fun w hw vs S2 H2 e2 k2 r2 => q w hw (v :: vs) S2 H2 (e1.trans e2) k2 ⟨v, vs, rfl, Py.mono e2 r1, r2⟩
theorem eaw_consW [PyA γ] {R2 : τ → τ2 → Prop} {x2 : τ → τ2 → γ} {st2 : τ → τ2 → List Sl} {tr : TA} (h : EvW K ta G R x st) (hr : ∀ w, R w → EvAW K tr (st w) (R2 w) (x2 w) (st2 w)) :
    EvAW K (tCons ta tr) G (fun w : τ × τ2 => R w.1 ∧ R2 w.1 w.2) (fun w => (x w.1, x2 w.1 w.2)) (fun w => st2 w.1 w.2) := fun B S0 S σ H F k Q q =>
  h B S0 S σ H F k _ fun w hw v S1 H1 e1 k1 r1 => hr w hw B S0 S1 σ H1 F k1 _ fun w2 hw2 vs S2 H2 e2 k2 r2 => q (w, w2) ⟨hw, hw2⟩ (v :: vs) S2 H2 (e1.trans e2) k2 ⟨v, vs, rfl, Py.mono e2 r1, r2⟩
theorem ew_call [PyA γ] {R : τ → Prop} {x : τ → γ} {f : γ → β} {pre : γ → Prop} {t : TA} (ha : EvAW K t G R x st) (hp : ∀ w, R w → pre (x w)) : EvW K (tCall (spF K f pre) [] X t) G R (fun w => f (x w)) st := fun B S0 S σ H F k Q q =>
  ha B S0 S σ H F k _ fun w hw vs S1 H1 e1 k1 r1 => by
    show spF K f pre (vs ++ []) H1 _ X
    rw [List.append_nil]
    exact ⟨S1, x w, k1.sub, r1, hp w hw, fun v S2 H2 g r2 => q w hw v S2 H2 (e1.trans g.s) (k1.grow g) r2⟩
theorem elsw_last (h : EvW K ta G R x st) : EvLsW K (tCons ta tNil) G R (fun w => [x w]) st := fun B S0 S σ H F k Q q =>
  h B S0 S σ H F k _ fun w hw v S1 H1 e1 k1 r1 => q w hw [v] S1 H1 e1 k1 ⟨r1, True.intro⟩
theorem elsw_cons {R2 : τ → τ2 → Prop} {x2 : τ → τ2 → List α} {st2 : τ → τ2 → List Sl} {tr : TA} (h : EvW K ta G R x st) (hr : ∀ w, R w → EvLsW K tr (st w) (R2 w) (x2 w) (st2 w)) :
    EvLsW K (tCons ta tr) G (fun w : τ × τ2 => R w.1 ∧ R2 w.1 w.2) (fun w => x w.1 :: x2 w.1 w.2) (fun w => st2 w.1 w.2) := fun B S0 S σ H F k Q q =>
  h B S0 S σ H F k _ fun w hw v S1 H1 e1 k1 r1 => hr w hw B S0 S1 σ H1 F k1 _ fun w2 hw2 vs S2 H2 e2 k2 r2 => q (w, w2) ⟨hw, hw2⟩ (v :: vs) S2 H2 (e1.trans e2) k2 ⟨Py.mono e2 r1, r2⟩
theorem ew_lst {R : τ → Prop} {x : τ → List α} {st : τ → List Sl} {t : TA} (h : EvLsW K t G R x st) (hl : ∀ w, R w → (x w).length ≤ 1000) : EvW K (tLst t) G R x st := fun B S0 S σ H F k Q q =>
  h B S0 S σ H F k _ fun w hw vs S1 H1 e1 k1 r1 => ⟨by rw [r1.len]; exact Nat.le_trans (hl w hw) (by decide), fun p hp =>
    q w hw (.ref p) _ _ (e1.trans (same_new (k1.free hp).1)) (k1.new hp) ⟨p, vs, rfl, upd_same, r1.mono (same_new (k1.free hp).1)⟩⟩
/-! tests -/
theorem etw_B {b : τ → Bool} (h : EvW K te G R b st) : EvTW K (tB te) G R b st := fun B S0 S σ H F k Q q => h B S0 S σ H F k _ fun w hw v S1 H1 e1 k1 r1 => ⟨b w, r1, q w hw S1 H1 e1 k1⟩
theorem etw_not {b : τ → Bool} (h : EvTW K tt G R b st) : EvTW K (tNot tt) G R (fun w => !b w) st := fun B S0 S σ H F k Q q => h B S0 S σ H F k _ fun w hw S1 H1 e1 k1 => q w hw S1 H1 e1 k1
theorem etw_test {b : τ → Bool} (h : EvW K te G R b st) : EvTW K (tTest te) G R b st := fun B S0 S σ H F k Q q => h B S0 S σ H F k _ fun w hw v S1 H1 e1 k1 r1 => ⟨b w, r1, q w hw S1 H1 e1 k1⟩
theorem q_ifW {b : τ → Bool} (h : EvTW K tt G R b st) (h1 : ∀ z, R z → b z = true → At K B S0 (t { E with nx := u E }) (st z)) (h2 : ∀ z, R z → b z = false → At K B S0 (w { E with nx := u E }) (st z)) : At K B S0 (tSeq (tIfS tt t w) u E) G := fun S σ H F kn =>
  h B S0 S σ H F kn _ fun z hz S' H' e kn' => by
    have a1 := h1 z hz
    have a2 := h2 z hz
    revert a1 a2
    cases b z with
    | true => exact fun a1 _ => a1 rfl S' σ H' F kn'
    | false => exact fun _ a2 => a2 rfl S' σ H' F kn'
theorem q_ifWF {b : τ → Bool} (h : EvTW K tt G R b st) (h1 : ∀ z, R z → b z = false) (h2 : ∀ z, R z → At K B S0 (u E) (st z)) : At K B S0 (tSeq (tIfS tt t tNext) u E) G :=
  q_ifW h (fun z hz e => by rw [h1 z hz] at e; cases e) fun z hz _ => h2 z hz
theorem q_asgW (h : EvW K te G R x st) (k : ∀ w, R w → ∃ G2 ts, TgG K g (x w) (st w) G2 ts ∧ At K B S0 (u E) G2) : At K B S0 (tSeq (tAsg te g) u E) G := fun S σ H F kn =>
  h B S0 S σ H F kn _ fun w hw v S' H' e kn' r => by
    obtain ⟨G2, ts, tg, hat⟩ := k w hw
    exact tg.2 B S0 S' σ H' F v kn' r _ fun σ' k2 _ _ => hat S' σ' H' F k2
theorem q_setW (i : Nat) (h : EvW K te G R x st) (hi : ∀ w, ((st w)[i]?).isSome = true) (k : ∀ w, R w → At K B S0 (u E) ((st w).set i (.im (x w)))) : At K B S0 (tSeq (tAsg te (gName i)) u E) G :=
  q_asgW h fun w hw => ⟨_, _, tg_name (hi w), k w hw⟩
theorem q_retW (h : EvW K te G R x st) (k : ∀ w, R w → RT K B S0 E.rt (x w) (st w)) : At K B S0 (tSeq (tRet te) u E) G := fun S σ H F kn =>
  h B S0 S σ H F kn _ fun w hw v S' H' e kn' r => k w hw S' σ H' F v kn' r
end
end
/-! a def of which a relation is known -/
section
variable {P : Program} {w : World} {K : Fg} {mg : Str → Option Value} {base : Heap} {α β : Type} [Sls α] [Py β]
theorem def_spQ {x : Str} {st : Stmt} {N ps : List Str} {k : Nat} {R : α → β → Prop} {pre : α → Prop} (D : Def K mg x st ps) (S : FnScope N ps (defScope st)) (hn : PyA.n α = ps.length)
    (h : ∀ (fa : Addr) (cdv : Value) (A : Around) (outer : List Env) (s : Shared) (H : Hp) (E : XK), Room k (A.deeper (envOfC x (defScope st) s.heap.objs.size fa cdv)) →
      ∃ t, PSs (cxOf CX0 P w K mg base N x (defScope st) fa cdv A outer s H E).nox (defBody st) t ∧
        ∀ (a : α), pre a → ∀ (B S0 : Hp) (Q : VK), (∀ G' y, R a y → RT K B S0 Q y G') → At K B S0 (t { nx := fun _ H' => Q .non H', rt := Q }) (Sls.sls a ++ List.replicate (N.length - PyA.n α) .no)) :
    Cal P w K mg base (k + 1) x ps (spQ K R pre) := by
  obtain ⟨fa, fd, m, F, b⟩ := D.ex
  refine ⟨fa, fd, m, F.ok S (fun vs H Q E ⟨S, a, _, r, _⟩ => (PyA.len r).trans hn) fun cdv A outer s H vs Q E hr ⟨S', a, e, r, hp, q⟩ => ?_, F.kp, b⟩
  obtain ⟨t, h1, h2⟩ := h fa cdv A outer s H E hr
  refine ⟨t, h1, h2 a hp H S' Q (fun G' y hR S1 σ1 H1 F1 v k1 r1 => ?_) S' _ H _ (start_kn e r)⟩
  exact q y v S1 H1 ⟨k1.s0, k1.sub, k1.keep, k1.clean⟩ hR r1
end
end GL
namespace GL
open PySem PySem.Spec PyProof.Rows L2
section
variable {K : Fg} {G : List Sl} {te : TE} {α τ : Type} [Py α]
theorem EvW.dat [ToD α] {R : τ → Prop} {x : τ → α} {st : τ → List Sl} (h : EvW K te G R x st) : EvW K te G R (fun w => ToD.dat (x w)) st := fun B S0 S σ H F k Q q => h B S0 S σ H F k Q fun w hw v S' H' e k' r => q w hw v S' H' e k' (ToD.of r)
end
end GL
namespace GL
open PySem PySem.Spec PyProof.Rows L2
section
variable {K : Fg} {G : List Sl} {te : TE} {τ : Type} {R : τ → Prop} {x : τ → Bool} {st : τ → List Sl} {c : Bool}
theorem ew_isB (h : EvW K te G R x st) : EvW K (tOp rIsB te (tC (.bl c))) G R (fun w => decide (x w = c)) st := fun B S0 S σ H F k Q q =>
  h B S0 S σ H F k _ fun w hw v S1 H1 e1 k1 r1 => ⟨x w, c, r1, rfl, q w hw _ S1 H1 e1 k1 rfl⟩
theorem ew_nisB (h : EvW K te G R x st) : EvW K (tOp rNotB te (tC (.bl c))) G R (fun w => !decide (x w = c)) st := fun B S0 S σ H F k Q q =>
  h B S0 S σ H F k _ fun w hw v S1 H1 e1 k1 r1 => ⟨x w, c, r1, rfl, q w hw _ S1 H1 e1 k1 rfl⟩
end
end GL

/-! Small rules beside refusals; calls as tuples of a word and numbers. -/
namespace GL
open PySem PySem.Spec PyProof.Rows L2
section
variable {K : Fg} {B S0 S1 S S' D : Hp} {σ : L2.St} {H H' : Hp} {F : Nat → List Addr} {G G' G1 G2 : List Sl} {ta tb te : TE} {t u : TS} {E : Ends} {i j : Nat} {Y : XC → Addr} {α : Type}
theorem q_try (h : At K B S0 (t { E with nx := u E }) G) : At K B S0 (tSeq t u E) G := h
theorem rt_dat [Py α] [ToD α] {x : α} {rt : VK} (h : RT K B S0 rt (ToD.dat x) G) : RT K B S0 rt x G := fun S σ H F v k r => h S σ H F v k (ToD.of r)
theorem ev_isN0 {x : Unit} (ha : EvX K ta G x G1) : EvX K (tIsN ta) G true G1 := fun B S0 S σ H F k Q q => ha B S0 S σ H F k _ fun v S1 H1 e1 k1 r1 => q _ S1 H1 e1 k1 (by rw [show v = .non from r1]; rfl)
theorem ev_notN0 {x : Unit} (ha : EvX K ta G x G1) : EvX K (tNotN ta) G false G1 := fun B S0 S σ H F k Q q => ha B S0 S σ H F k _ fun v S1 H1 e1 k1 r1 => q _ S1 H1 e1 k1 (by rw [show v = .non from r1]; rfl)
theorem ev_isNx {x : Exc Y} (ha : EvX K ta G x G1) : EvX K (tIsN ta) G false G1 := fun B S0 S σ H F k Q q => ha B S0 S σ H F k _ fun v S1 H1 e1 k1 r1 => q _ S1 H1 e1 k1 (congrArg V.bl (decide_eq_false (nn_exc K S1 v x r1)))
theorem ev_notNx {x : Exc Y} (ha : EvX K ta G x G1) : EvX K (tNotN ta) G true G1 := fun B S0 S σ H F k Q q => ha B S0 S σ H F k _ fun v S1 H1 e1 k1 r1 => q _ S1 H1 e1 k1 (congrArg V.bl (by rw [decide_eq_false (nn_exc K S1 v x r1)]; rfl))
/-! words with numbers -/
structure Wd where
  w : Str
  n : List Int
instance : Py Wd := ⟨fun K S v x => ∃ p, v = .ref p ∧ SqT K S p (.str x.w :: x.n.map V.int), fun e ⟨p, h1, h2⟩ => ⟨p, h1, seqT e h2⟩⟩
instance : Inhabited Wd := ⟨⟨Str.empty, []⟩⟩
theorem ev_wdW {x : Wd} (ha : EvX K ta G x G1) : EvX K (tOp (rIxT K) ta (tC (.int 0))) G x.w G1 := fun B S0 S σ H F k Q q =>
  ha B S0 S σ H F k _ fun v S1 H1 e1 k1 r1 => by
    obtain ⟨p, rfl, hp⟩ := r1
    exact ⟨p, _, 0, .str x.w, rfl, rfl, seqT k1.sub hp, atI_nat (j := 0) rfl, q _ S1 H1 e1 k1 rfl⟩
theorem ev_wd1 {x : Wd} (ha : EvX K ta G x G1) (h : 0 < x.n.length) : EvX K (tOp (rIxT K) ta (tC (.int 1))) G (ix x.n 0) G1 := fun B S0 S σ H F k Q q =>
  ha B S0 S σ H F k _ fun v S1 H1 e1 k1 r1 => by
    obtain ⟨p, rfl, hp⟩ := r1
    obtain ⟨w, n⟩ := x
    cases n with
    | nil => exact absurd h (by simp)
    | cons a n => exact ⟨p, _, 1, .int a, rfl, rfl, seqT k1.sub hp, atI_nat (j := 1) rfl, q _ S1 H1 e1 k1 rfl⟩
theorem ev_wd2 {x : Wd} (ha : EvX K ta G x G1) (h : 1 < x.n.length) : EvX K (tOp (rIxT K) ta (tC (.int 2))) G (ix x.n 1) G1 := fun B S0 S σ H F k Q q =>
  ha B S0 S σ H F k _ fun v S1 H1 e1 k1 r1 => by
    obtain ⟨p, rfl, hp⟩ := r1
    obtain ⟨w, n⟩ := x
    cases n with
    | nil => exact absurd h (by simp)
    | cons a n =>
      cases n with
      | nil => exact absurd h (by simp)
      | cons b n => exact ⟨p, _, 2, .int b, rfl, rfl, seqT k1.sub hp, atI_nat (j := 2) rfl, q _ S1 H1 e1 k1 rfl⟩
theorem ev_mkwd0 {w : Str} (ha : EvX K ta G w G1) : EvX K (tTup (tCons ta tNil)) G (Wd.mk w []) G1 := fun B S0 S σ H F k Q q =>
  ha B S0 S σ H F k _ fun v S1 H1 e1 k1 r1 => ⟨by show 1 ≤ sizeLine; decide, fun p hp => q (.ref p) _ _ (e1.trans (same_new (k1.free hp).1)) (k1.new hp) ⟨p, rfl, by rw [show v = .str w from r1]; exact SqT.of upd_same⟩⟩
theorem ev_mkwd1 {w : Str} {n : Int} (ha : EvX K ta G w G1) (hb : EvX K tb G1 n G2) : EvX K (tTup (tCons ta (tCons tb tNil))) G (Wd.mk w [n]) G2 := fun B S0 S σ H F k Q q =>
  ha B S0 S σ H F k _ fun v S1 H1 e1 k1 r1 => hb B S0 S1 σ H1 F k1 _ fun v2 S2 H2 e2 k2 r2 => ⟨by show 2 ≤ sizeLine; decide, fun p hp => q (.ref p) _ _ ((e1.trans e2).trans (same_new (k2.free hp).1)) (k2.new hp) ⟨p, rfl, by rw [show v = .str w from r1, show v2 = .int n from r2]; exact SqT.of upd_same⟩⟩
/-! count and index in lists of truths -/
theorem count_bls (x : Bool) : ∀ xs : List Bool, ((xs.map V.bl).countP fun z => eqV z (.bl x)) = xs.count x
  | [] => rfl
  | y :: ys => by
    rw [List.map_cons, List.countP_cons, List.count_cons, count_bls x ys]
    cases x <;> cases y <;> rfl
theorem ev_countB {xs : List Bool} {x : Bool} (ha : EvC K ta G xs G1) (hb : EvX K tb G1 x G1) : EvX K (tBM K "list" (rCntV K) ta (tCons tb tNil)) G ((xs.count x : Nat) : Int) G1 := fun B S0 S σ H F k Q q =>
  ha B S0 S σ H F k _ fun v S1 H1 e1 k1 r1 => by
    obtain ⟨p, vs, rfl, hp, hr⟩ := r1.at k1
    refine ⟨.inl ⟨rfl, _, SqL.of hp⟩, hb B S0 S1 σ H1 F k1 _ fun w S2 H2 e2 k2 r2 => ?_⟩
    obtain ⟨p', vs', ep, hp', hr'⟩ := (r1.mono e2).at k2
    cases ep
    refine ⟨p, vs', .bl x, rfl, by rw [show w = .bl x from r2], SqL.of hp', rfl, by rw [hr'.bls]; exact flat_bls _, q _ S2 H2 (e1.trans e2) k2 ?_⟩
    rw [hr'.bls, count_bls]
    rfl
theorem ev_indexB {xs : List Bool} {x : Bool} {n : Nat} (ha : EvC K ta G xs G1) (hb : EvX K tb G1 x G1) (hn : xs[n]? = some x) (hl : ∀ m : Nat, m < n → xs[m]? ≠ some x) : EvX K (tBM K "list" (rIndex K) ta (tCons tb tNil)) G (n : Int) G1 := fun B S0 S σ H F k Q q =>
  ha B S0 S σ H F k _ fun v S1 H1 e1 k1 r1 => by
    obtain ⟨p, vs, rfl, hp, hr⟩ := r1.at k1
    refine ⟨.inl ⟨rfl, _, SqL.of hp⟩, hb B S0 S1 σ H1 F k1 _ fun w S2 H2 e2 k2 r2 => ?_⟩
    obtain ⟨p', vs', ep, hp', hr'⟩ := (r1.mono e2).at k2
    cases ep
    have ev := hr'.bls
    refine ⟨p, vs', .bl x, n, .bl x, rfl, by rw [show w = .bl x from r2], SqL.of hp', rfl, by rw [ev]; exact flat_bls _, by rw [ev, List.getElem?_map, hn]; rfl, by simp [eqV], fun m z hm hz => ?_, q _ S2 H2 (e1.trans e2) k2 rfl⟩
    rw [ev, List.getElem?_map] at hz
    cases e : xs[m]? with
    | none => rw [e] at hz; cases hz
    | some y =>
      rw [e] at hz
      cases hz
      have ne := hl m hm
      rw [e] at ne
      cases x <;> cases y <;> first | rfl | exact absurd rfl ne
end
end GL

/-! Calls that read one owned list among any arguments, and tell new lists. -/
namespace GL
open PySem PySem.Spec PyProof.Rows L2
/-- kinds that, told as new, hold no older list -/
class NoLF (α : Type) [Py α] [PyF α] : Prop where
  go : ∀ {K : Fg} {D S : Hp} {p : Addr} {us : List V} {o : HO} {v : V} {x : α}, D p = some o → S p = some (.lst us) → PyF.repF K D S v x → PyF.repF K D (del S p) v x
section
variable {α β γ : Type} [Py α] [Py β] [Py γ]
instance : NoLF Int := ⟨fun _ _ h => h⟩
instance : NoLF Bool := ⟨fun _ _ h => h⟩
instance : NoLF Str := ⟨fun _ _ h => h⟩
instance : NoLF Unit := ⟨fun _ _ h => h⟩
instance [NoL α] : NoLF (Tp α) := ⟨fun {K D S p us o v x} _ h r => (inferInstance : NoL (Tp α)).go (v := v) (x := x) h r⟩
instance [NoL α] : NoLF (List α) := ⟨fun {K D S p us o v x} hd hs ⟨⟨q, vs, h1, h2, h3⟩, q', h4, h5⟩ => ⟨⟨q, vs, h1, by
  have ne : q ≠ p := fun z => by
    rw [h1] at h4
    cases h4
    rw [z, hd] at h5
    cases h5
  rw [del_ne ne]
  exact h2, nlAll hs h3⟩, q', h4, h5⟩⟩
instance [PyF α] [PyF β] [NoLF α] [NoLF β] : NoLF (α × β) := ⟨fun {K D S p us o v x} hd hs ⟨a, b, c, h1, h2, h3, h4⟩ => ⟨a, b, c, h1, nlT hs h2, NoLF.go hd hs h3, NoLF.go hd hs h4⟩⟩
instance [PyF α] [PyF β] [PyF γ] [NoLF α] [NoLF β] [NoLF γ] : NoLF (T3 α β γ) := ⟨fun {K D S p us o v x} hd hs ⟨a, b, c, d, h1, h2, h3, h4, h5⟩ => ⟨a, b, c, d, h1, nlT hs h2, NoLF.go hd hs h3, NoLF.go hd hs h4, NoLF.go hd hs h5⟩⟩
end
section
variable {K : Fg} {B S0 S1 S S' D : Hp} {σ : L2.St} {H H' : Hp} {F : Nat → List Addr} {G G' G1 G2 : List Sl} {ta tb te : TE} {t u : TS} {E : Ends} {Ex : XK} {i j : Nat} {α β δ : Type}
/-- arguments, among them the owned list d in slot i -/
def EvAL [Py δ] [PyA α] (K : Fg) (i : Nat) (d : List δ) (ta : TA) (G : List Sl) (x : α) (G' : List Sl) : Prop :=
  ∀ B S0 S σ H F, Kn K B S0 S σ H F G → ∀ Q : List V → Hp → Prop, (∀ vs S' H', Same S S' → Kn K B S0 S' σ H' F G' → (∀ p us, σ[i]? = some (some (.ref p)) → RepL K S' us d → S' p = none → PyA.rep K (upd S' p (.lst us)) vs x) → Q vs H') → ta σ H Q
theorem eal_nil [Py δ] {d : List δ} : EvAL K i d tNil G () G := fun B S0 S σ H F k Q q => q [] S H (Same.refl _) k fun _ _ _ _ _ => rfl
theorem eal_cons [Py δ] [Py α] [PyA β] {d : List δ} {x : α} {xs : β} {tr : TA} (h : EvX K ta G x G1) (hr : EvAL K i d tr G1 xs G2) : EvAL K i d (tCons ta tr) G (x, xs) G2 := fun B S0 S σ H F k Q q =>
  h B S0 S σ H F k _ fun v S1 H1 e1 k1 r1 => hr B S0 S1 σ H1 F k1 _ fun vs S2 H2 e2 k2 r2 => q (v :: vs) S2 H2 (e1.trans e2) k2 fun p us hp hr hn => ⟨v, vs, rfl, Py.mono (e2.trans (same_new hn)) r1, r2 p us hp hr hn⟩
theorem eal_lent [Py δ] [PyA β] {d : List δ} {xs : β} {tr : TA} (h : G[i]? = some (.ow d)) (hr : EvAL K i d tr G xs G2) : EvAL K i d (tCons (tVar i) tr) G (d, xs) G2 := fun B S0 S σ H F k Q q => by
  obtain ⟨p, vs0, h1, h2, h3, h4⟩ := own_list k h
  exact ⟨.ref p, h1, hr B S0 S σ H F k _ fun vs S2 H2 e2 k2 r2 => q (.ref p :: vs) S2 H2 e2 k2 fun p' us hp hu hn => by
    rw [h1] at hp
    cases hp
    exact ⟨.ref p, vs, rfl, ⟨p, us, rfl, upd_same, hu.mono (same_new hn)⟩, r2 p us h1 hu hn⟩⟩
theorem ev_callNL [Py δ] [PyA α] [Py β] [PyF β] [NoLF β] {d : List δ} {f : α → β} {pre : α → Prop} {a : α} {t : TA} (ha : EvAL K i d t G a G1) (hi : G1[i]? = some (.ow d)) (hp : pre a) : EvX K (tCall (spN K f pre) [] Ex t) G (f a) G1 := fun B S0 S σ H F k Q q =>
  ha B S0 S σ H F k _ fun vs S1 H1 e1 k1 r1 => by
    obtain ⟨p, us, h1, hF, h2, h3⟩ := own_list k1 hi
    obtain ⟨hs, hb, _⟩ := k1.off i p (by rw [hF]; exact List.mem_singleton.mpr rfl)
    have k' := k1.relLat hi h1 hF h2 h3
    show spN K f pre (vs ++ []) H1 _ Ex
    rw [List.append_nil]
    refine ⟨upd S1 p (.lst us), a, k'.sub, r1 p us h1 h3 hs, hp, fun w S2 H2 g r2 => ?_⟩
    have gl := g.lent hs
    exact q w (del S2 p) H2 (e1.trans gl.s) (k1.grow gl) (PyF.un (NoLF.go h2 (g.s _ _ upd_same) r2))
end
end GL

/-! Two owned things in one promise; values of which a word is known, owned things coming to stand elsewhere. -/
namespace GL
open PySem PySem.Spec PyProof.Rows L2
def EvMv {α τ : Type} [Py α] (K : Fg) (te : TE) (G : List Sl) (R : τ → Prop) (x : τ → α) (st : τ → List Sl) : Prop :=
  ∀ B S0 S σ H F, Kn K B S0 S σ H F G → ∀ Q : VK, (∀ w, R w → ∀ v S' H' F', Same S S' → Kn K B S0 S' σ H' F' (st w) → Py.rep K S' v (x w) → Q v H') → te σ H Q
def EvTMv {τ : Type} (K : Fg) (tt : TT) (G : List Sl) (R : τ → Prop) (b : τ → Bool) (st : τ → List Sl) : Prop :=
  ∀ B S0 S σ H F, Kn K B S0 S σ H F G → ∀ Q : Bool → Hp → Prop, (∀ w, R w → ∀ S' H' F', Same S S' → Kn K B S0 S' σ H' F' (st w) → Q (b w) H') → tt σ H Q
/-- two owned things ahead of the arguments; each may come to stand elsewhere -/
def spO2 {ω η α β : Type} [Own ω] [Own η] [PyA α] [Py β] (K : Fg) (R : ω → η → α → β → ω → η → Prop) (pre : ω → η → α → Prop) : Sp := fun vs H Q _ => ∃ (S : Hp) (v0 v1 : V) (ws : List V) (ps qs : List Addr) (z : ω) (y : η) (a : α), vs = v0 :: v1 :: ws ∧ Same S H ∧ Own.own K S H v0 ps z ∧ Own.own K S H v1 qs y ∧
  (∀ p ∈ ps, S p = none ∧ ∃ o, H p = some o) ∧ (∀ p ∈ qs, S p = none ∧ ∃ o, H p = some o) ∧ (∀ p ∈ ps, p ∉ qs) ∧ PyA.rep K S ws a ∧ pre z y a ∧
  ∀ v S' H' ps' qs' b z' y', R z y a b z' y' → Same S S' → Same S' H' → (∀ p o, p ∉ ps → p ∉ qs → H p = some o → H' p = some o) → (∀ p o, p ∉ ps → p ∉ qs → H p = some o → S' p = S p) →
    (∀ p ∈ ps', S' p = none ∧ (∃ o, H' p = some o) ∧ (p ∈ ps ∨ p ∈ qs ∨ H p = none)) → (∀ p ∈ qs', S' p = none ∧ (∃ o, H' p = some o) ∧ (p ∈ ps ∨ p ∈ qs ∨ H p = none)) → (∀ p ∈ ps', p ∉ qs') →
    Own.own K S' H' v0 ps' z' → Own.own K S' H' v1 qs' y' → Py.rep K S' v b → Q v H'
section
variable {K : Fg} {B S0 S1 S S' D : Hp} {σ : L2.St} {H H' : Hp} {F : Nat → List Addr} {G G' G1 G2 G3 : List Sl} {ta tb tc te : TE} {i j : Nat} {t : TA} {u w : TS} {tt uu : TT} {E : Ends} {g : TG} {X : XK}
section
variable {α β τ : Type} [Py α] [Py β] {R : τ → Prop} {x : τ → α} {st : τ → List Sl} {b : τ → Bool} {y : α}
theorem ev_toV (h : EvX K te G y G1) : EvMv K te G (fun _ : Unit => True) (fun _ => y) (fun _ => G1) := fun B S0 S σ H F k Q q => h B S0 S σ H F k Q fun v S' H' e k' r => q () True.intro v S' H' F e k' r
theorem EvW.toV (h : EvW K te G R x st) : EvMv K te G R x st := fun B S0 S σ H F k Q q => h B S0 S σ H F k Q fun w hw v S' H' e k' r => q w hw v S' H' F e k' r
theorem etv_B (h : EvMv K te G R b st) : EvTMv K (tB te) G R b st := fun B S0 S σ H F k Q q => h B S0 S σ H F k _ fun w hw v S1 H1 F1 e1 k1 r1 => ⟨b w, r1, q w hw S1 H1 F1 e1 k1⟩
theorem etv_not (h : EvTMv K tt G R b st) : EvTMv K (tNot tt) G R (fun w => !b w) st := fun B S0 S σ H F k Q q => h B S0 S σ H F k _ fun w hw S1 H1 F1 e1 k1 => q w hw S1 H1 F1 e1 k1
/-- t and u, where u is so; as far as u isn't reached, its word holds of what there is -/
theorem etv_and {c : Bool} (h1 : EvT K tt G c G1) (h0 : c = false → ∃ w, R w ∧ st w = G1) (h2 : c = true → EvTMv K uu G1 R b st) : EvTMv K (tAnd tt uu) G R (fun w => c && b w) st := fun B S0 S σ H F k Q q => h1 B S0 S σ H F k _ fun S1 H1 e1 k1 => by
  cases c with
  | true =>
    simp only [if_true]
    exact h2 rfl B S0 S1 σ H1 F k1 _ fun w hw S2 H2 F2 e2 k2 => q w hw S2 H2 F2 (e1.trans e2) k2
  | false =>
    simp only [Bool.false_eq_true, if_false]
    obtain ⟨w, hw, e⟩ := h0 rfl
    exact q w hw S1 H1 F e1 (by rw [e]; exact k1)
/-- t and u, where u is so; as far as u isn't reached, all is as it was -/
theorem etv_andC {c : Bool} (w0 : τ) (h1 : EvT K tt G c G1) (h0 : c = false → st w0 = G1) (h2 : c = true → EvTMv K uu G1 R b st) : EvTMv K (tAnd tt uu) G (fun w => (c = true → R w) ∧ (c = false → w = w0)) (fun w => c && b w) st := fun B S0 S σ H F k Q q => h1 B S0 S σ H F k _ fun S1 H1 e1 k1 => by
  cases c with
  | true =>
    simp only [if_true]
    exact h2 rfl B S0 S1 σ H1 F k1 _ fun w hw S2 H2 F2 e2 k2 => q w ⟨fun _ => hw, fun e => (by cases e)⟩ S2 H2 F2 (e1.trans e2) k2
  | false =>
    simp only [Bool.false_eq_true, if_false]
    exact q w0 ⟨fun e => (by cases e), fun _ => rfl⟩ S1 H1 F e1 (by rw [h0 rfl]; exact k1)
theorem q_ifVF {t : TS} (h : EvTMv K tt G R b st) (h1 : ∀ z, R z → b z = false) (h2 : ∀ z, R z → At K B S0 (u E) (st z)) : At K B S0 (tSeq (tIfS tt t tNext) u E) G := fun S σ H F kn =>
  h B S0 S σ H F kn _ fun z hz S' H' F' e kn' => by
    rw [h1 z hz]
    exact h2 z hz S' σ H' F' kn'
theorem q_setV (i : Nat) (h : EvMv K te G R x st) (hi : ∀ w, ((st w)[i]?).isSome = true) (k : ∀ w, R w → At K B S0 (u E) ((st w).set i (.im (x w)))) : At K B S0 (tSeq (tAsg te (gName i)) u E) G := fun S σ H F kn =>
  h B S0 S σ H F kn _ fun w hw v S' H' F' e kn' r => k w hw S' _ H' F' (kn'.set r (hi w))
theorem q_dropV (h : EvMv K te G R x st) (k : ∀ w, R w → At K B S0 (u E) (st w)) : At K B S0 (tSeq (tDrop te) u E) G := fun S σ H F kn =>
  h B S0 S σ H F kn _ fun w hw v S' H' F' e kn' r => k w hw S' _ H' F' kn'
theorem q_retV (h : EvMv K te G R x st) (k : ∀ w, R w → RT K B S0 E.rt (x w) (st w)) : At K B S0 (tSeq (tRet te) u E) G := fun S σ H F kn =>
  h B S0 S σ H F kn _ fun w hw v S' H' F' e kn' r => k w hw S' σ H' F' v kn' r
end
section
variable {ω η : Type} [Own ω] [Own η] {z z' z1 : ω} {y y' y1 : η}
theorem Kn.moved2 {S2 H2 : Hp} {v0 v1 : V} {ps' qs' : List Addr} (k1 : Kn K B S0 S1 σ H F G1) (ne : i ≠ j) (hi1 : G1[i]? = some (.ow z)) (hj1 : G1[j]? = some (.ow y)) (h1 : σ[i]? = some (some v0)) (h2 : σ[j]? = some (some v1)) (s1 : Same S1 S2) (s2 : Same S2 H2)
    (hk : ∀ p o, p ∉ F i → p ∉ F j → H p = some o → H2 p = some o) (hc : ∀ p o, p ∉ F i → p ∉ F j → H p = some o → S2 p = S1 p)
    (hl : ∀ p ∈ ps', S2 p = none ∧ (∃ o, H2 p = some o) ∧ (p ∈ F i ∨ p ∈ F j ∨ H p = none)) (hm : ∀ p ∈ qs', S2 p = none ∧ (∃ o, H2 p = some o) ∧ (p ∈ F i ∨ p ∈ F j ∨ H p = none)) (hd : ∀ p ∈ ps', p ∉ qs')
    (ho : Own.own K S2 H2 v0 ps' z') (hy : Own.own K S2 H2 v1 qs' y') : Kn K B S0 S2 σ H2 (upF (upF F i ps') j qs') ((G1.set i (.ow z')).set j (.ow y')) := by
  have hB : ∀ p, (p ∈ F i ∨ p ∈ F j ∨ H p = none) → B p = none := fun p hp => by
    rcases hp with m | m | m
    · exact (k1.off i p m).2.1
    · exact (k1.off j p m).2.1
    · exact (k1.free m).2.1
  have hN : ∀ p, (p ∈ F i ∨ p ∈ F j ∨ H p = none) → ∀ k, k ≠ i → k ≠ j → p ∉ F k := fun p hp k c1 c2 m => by
    rcases hp with m' | m' | m'
    · exact c1 (k1.dj k i p m m')
    · exact c2 (k1.dj k j p m m')
    · exact (k1.free m').2.2 k m
  have eF : ∀ k, upF (upF F i ps') j qs' k = if k = j then qs' else if k = i then ps' else F k := fun k => by
    by_cases c : k = j
    · rw [if_pos c, c, upF_self]
    · rw [if_neg c, upF_ne c]
      by_cases c' : k = i
      · rw [if_pos c', c', upF_self]
      · rw [if_neg c', upF_ne c']
  have nB : ∀ p o, B p = some o → p ∉ F i ∧ p ∉ F j := fun p o e => ⟨fun m => by (rw [(k1.off i p m).2.1] at e; cases e), fun m => by (rw [(k1.off j p m).2.1] at e; cases e)⟩
  refine ⟨k1.s0.trans s1, s2, fun p o e => hk p o (nB p o e).1 (nB p o e).2 (k1.keep p o e), fun p o e => (hc p o (nB p o e).1 (nB p o e).2 (k1.keep p o e)).trans (k1.clean p o e), fun k p hp => ?_, fun a b p ha hb => ?_, by rw [List.length_set, List.length_set]; exact k1.len, fun k s e => ?_⟩
  · rw [eF] at hp
    by_cases c : k = j
    · rw [if_pos c] at hp
      exact ⟨(hm p hp).1, hB p (hm p hp).2.2, (hm p hp).2.1⟩
    · rw [if_neg c] at hp
      by_cases c' : k = i
      · rw [if_pos c'] at hp
        exact ⟨(hl p hp).1, hB p (hl p hp).2.2, (hl p hp).2.1⟩
      · rw [if_neg c'] at hp
        obtain ⟨a1, a2, o, a3⟩ := k1.off k p hp
        have n1 : p ∉ F i := fun m => c' (k1.dj k i p hp m)
        have n2 : p ∉ F j := fun m => c (k1.dj k j p hp m)
        exact ⟨(hc p o n1 n2 a3).trans a1, a2, o, hk p o n1 n2 a3⟩
  · rw [eF] at ha hb
    by_cases a1 : a = j
    · rw [if_pos a1] at ha
      by_cases b1 : b = j
      · rw [a1, b1]
      · rw [if_neg b1] at hb
        by_cases b2 : b = i
        · rw [if_pos b2] at hb
          exact absurd ha (hd p hb)
        · rw [if_neg b2] at hb
          exact absurd hb (hN p (hm p ha).2.2 b b2 b1)
    · rw [if_neg a1] at ha
      by_cases a2 : a = i
      · rw [if_pos a2] at ha
        by_cases b1 : b = j
        · rw [if_pos b1] at hb
          exact absurd hb (hd p ha)
        · rw [if_neg b1] at hb
          by_cases b2 : b = i
          · rw [a2, b2]
          · rw [if_neg b2] at hb
            exact absurd hb (hN p (hl p ha).2.2 b b2 b1)
      · rw [if_neg a2] at ha
        by_cases b1 : b = j
        · rw [if_pos b1] at hb
          exact absurd ha (hN p (hm p hb).2.2 a a2 a1)
        · rw [if_neg b1] at hb
          by_cases b2 : b = i
          · rw [if_pos b2] at hb
            exact absurd ha (hN p (hl p hb).2.2 a a2 a1)
          · rw [if_neg b2] at hb
            exact k1.dj a b p ha hb
  · rw [eF]
    rcases set_get e with ⟨rfl, rfl⟩ | ⟨n1, e⟩
    · rw [if_pos rfl]
      exact ⟨v1, h2, hy⟩
    · rw [if_neg n1]
      rcases set_get e with ⟨rfl, rfl⟩ | ⟨n2, e⟩
      · rw [if_pos rfl]
        exact ⟨v0, h1, ho⟩
      · rw [if_neg n2]
        have w := k1.sl k s e
        cases s with
        | no => exact True.intro
        | im y =>
          obtain ⟨u, b1, b2⟩ := w
          exact ⟨u, b1, Py.mono s1 b2⟩
        | ow y =>
          obtain ⟨u, b1, b2⟩ := w
          refine ⟨u, b1, Own.mono s1 (fun p hp => ?_) b2⟩
          obtain ⟨_, _, o, a3⟩ := k1.off k p hp
          rw [a3]
          exact hk p o (fun m => n2 (k1.dj k i p hp m)) (fun m => n1 (k1.dj k j p hp m)) a3
theorem ev_callO2 {α β : Type} [PyA α] [Py β] {a : α} {R : ω → η → α → β → ω → η → Prop} {pre : ω → η → α → Prop} (i j : Nat) (ne : i ≠ j) (hi : G[i]? = some (.ow z)) (hj : G[j]? = some (.ow y)) (ha : EvA K t G a G1) (hi1 : G1[i]? = some (.ow z1)) (hj1 : G1[j]? = some (.ow y1)) (hp : pre z1 y1 a) :
    EvMv K (tCall (spO2 K R pre) [] X (tCons (tVar i) (tCons (tVar j) t))) G (fun w : β × ω × η => R z1 y1 a w.1 w.2.1 w.2.2) (fun w => w.1) (fun w => (G1.set i (.ow w.2.1)).set j (.ow w.2.2)) := fun B S0 S σ H F kn Q q => by
  obtain ⟨v0, h1, _⟩ := kn.ow hi
  obtain ⟨v1, h2, _⟩ := kn.ow hj
  refine ⟨v0, h1, v1, h2, ha B S0 S σ H F kn _ fun vs S1 H1 e1 k1 r1 => ?_⟩
  show spO2 K R pre (v0 :: v1 :: vs ++ []) H1 Q X
  rw [List.append_nil]
  obtain ⟨u0, g1, o1⟩ := k1.ow hi1
  obtain ⟨u1, g2, o2⟩ := k1.ow hj1
  rw [h1] at g1
  rw [h2] at g2
  cases g1
  cases g2
  exact ⟨S1, v0, v1, vs, F i, F j, z1, y1, a, rfl, k1.sub, o1, o2, fun p hp => ⟨(k1.off i p hp).1, (k1.off i p hp).2.2⟩, fun p hp => ⟨(k1.off j p hp).1, (k1.off j p hp).2.2⟩, fun p m m' => ne (k1.dj i j p m m'), r1, hp,
    fun v S2 H2 ps' qs' b z' y' hR s1 s2 hk hc hl hm hd ho hy r2 => q (b, z', y') hR v S2 H2 _ (e1.trans s1) (k1.moved2 ne hi1 hj1 h1 h2 s1 s2 hk hc hl hm hd ho hy) r2⟩
end
end
section
variable {P : Program} {w : World} {K : Fg} {mg : Str → Option Value} {base : Heap} {ω η α β : Type} [Own ω] [Anch ω] [Own η] [Anch η] [Sls α] [Py β] {S H : Hp}
theorem start_knM2 {v0 v1 : V} {ps qs : List Addr} {z : ω} {y : η} {vs : List V} {a : α} {N : List Str} (e : Same S H) (ho : Own.own K S H v0 ps z) (hy : Own.own K S H v1 qs y) (hps : ∀ p ∈ ps, S p = none ∧ ∃ o, H p = some o) (hqs : ∀ p ∈ qs, S p = none ∧ ∃ o, H p = some o) (hd : ∀ p ∈ ps, p ∉ qs) (r : PyA.rep K S vs a) :
    Kn K (fun p => if p ∈ ps ∨ p ∈ qs then none else H p) S S (L2.start N (v0 :: v1 :: vs)) H (fun i => if i = 0 then ps else if i = 1 then qs else []) (.ow z :: .ow y :: Sls.sls a ++ List.replicate (N.length - (PyA.n α + 2)) .no) := by
  obtain ⟨l, q⟩ := Sls.ok (H := H) r
  have hn := PyA.len r
  have hF : ∀ i p, p ∈ (if i = 0 then ps else if i = 1 then qs else []) → (i = 0 ∧ p ∈ ps) ∨ (i = 1 ∧ p ∈ qs) := fun i p hp => by
    by_cases c : i = 0
    · rw [if_pos c] at hp
      exact .inl ⟨c, hp⟩
    · rw [if_neg c] at hp
      by_cases c' : i = 1
      · rw [if_pos c'] at hp
        exact .inr ⟨c', hp⟩
      · rw [if_neg c'] at hp
        cases hp
  refine ⟨Same.refl _, e, fun p o hp => ?_, fun _ _ _ => rfl, fun i p hp => ?_, fun i j p hp hp' => ?_, ?_, fun i s hi => ?_⟩
  · by_cases m : p ∈ ps ∨ p ∈ qs
    · rw [if_pos m] at hp
      cases hp
    · rw [if_neg m] at hp
      exact hp
  · rcases hF i p hp with ⟨_, m⟩ | ⟨_, m⟩
    · exact ⟨(hps p m).1, if_pos (.inl m), (hps p m).2⟩
    · exact ⟨(hqs p m).1, if_pos (.inr m), (hqs p m).2⟩
  · rcases hF i p hp with ⟨c, m⟩ | ⟨c, m⟩ <;> rcases hF j p hp' with ⟨c', m'⟩ | ⟨c', m'⟩
    · rw [c, c']
    · exact absurd m' (hd p m)
    · exact absurd m (hd p m')
    · rw [c, c']
  · unfold L2.start
    simp only [List.length_append, List.length_map, List.length_replicate, List.length_cons, l, hn]
  · unfold L2.start
    match i with
    | 0 =>
      simp only [List.cons_append, List.getElem?_cons_zero, Option.some.injEq] at hi
      subst hi
      exact ⟨v0, rfl, ho⟩
    | 1 =>
      simp only [List.cons_append, List.getElem?_cons_zero, List.getElem?_cons_succ, Option.some.injEq] at hi
      subst hi
      exact ⟨v1, rfl, hy⟩
    | i + 2 =>
      simp only [List.cons_append, List.getElem?_cons_succ, List.map_cons] at hi ⊢
      by_cases c : i < (Sls.sls a).length
      · rw [List.getElem?_append_left c] at hi
        rw [List.getElem?_append_left (by rw [List.length_map, ← l]; exact c)]
        have := q i s hi
        rw [if_neg (by omega), if_neg (by omega)]
        exact this
      · rw [List.getElem?_append_right (by omega)] at hi
        have : s = .no := by
          have := List.mem_of_getElem? hi
          exact List.eq_of_mem_replicate this
        subst this
        exact True.intro
theorem def_spO2 {x : Str} {st : Stmt} {N ps : List Str} {k : Nat} {R : ω → η → α → β → ω → η → Prop} {pre : ω → η → α → Prop} (D : Def K mg x st ps) (S : FnScope N ps (defScope st)) (hn : PyA.n α + 2 = ps.length)
    (h : ∀ (fa : Addr) (cdv : Value) (A : Around) (outer : List Env) (s : Shared) (H : Hp) (E : XK), Room k (A.deeper (envOfC x (defScope st) s.heap.objs.size fa cdv)) →
      ∃ t, PSs (cxOf CX0 P w K mg base N x (defScope st) fa cdv A outer s H E).nox (defBody st) t ∧
        ∀ (z : ω) (y : η) (a : α), pre z y a → ∀ (B S0 : Hp) (Q : VK), (∀ (G' : List Sl) b (z' : ω) (y' : η), G'[0]? = some (.ow z') → G'[1]? = some (.ow y') → (Anch.fp z').1 = (Anch.fp z).1 → (Anch.fp y').1 = (Anch.fp y).1 → R z y a b z' y' → RT K B S0 Q b G') →
          At K B S0 (t { nx := fun _ H' => Q .non H', rt := Q }) (.ow z :: .ow y :: Sls.sls a ++ List.replicate (N.length - (PyA.n α + 2)) .no)) :
    Cal P w K mg base (k + 1) x ps (spO2 K R pre) := by
  obtain ⟨fa, fd, m, Fu, b⟩ := D.ex
  refine ⟨fa, fd, m, Fu.ok S (fun vs H Q E ⟨S, v0, v1, ws, ps, qs, z, y, a, e, _, _, _, _, _, _, r, _⟩ => by rw [e, List.length_cons, List.length_cons, PyA.len r]; exact hn) fun cdv A outer s H vs Q E hr ⟨S', v0, v1, ws, ps', qs', z, y, a, e, es, ho, hy, hps, hqs, hd, r, hp, q⟩ => ?_, Fu.kp, b⟩
  subst e
  obtain ⟨t, h1, h2⟩ := h fa cdv A outer s H E hr
  refine ⟨t, h1, ?_⟩
  refine h2 z y a hp _ S' Q (fun G' b z' y' hz hy' ea eb hR S1 σ1 H1 F1 v k1 r1 => ?_) S' _ H _ (start_knM2 (N := N) es ho hy hps hqs hd r)
  obtain ⟨u0, _, o1⟩ := k1.ow hz
  obtain ⟨u1, _, o2⟩ := k1.ow hy'
  have ev0 : u0 = v0 := (congrArg Prod.fst (Anch.at_ o1)).trans (ea.trans (congrArg Prod.fst (Anch.at_ ho)).symm)
  have ev1 : u1 = v1 := (congrArg Prod.fst (Anch.at_ o2)).trans (eb.trans (congrArg Prod.fst (Anch.at_ hy)).symm)
  rw [ev0] at o1
  rw [ev1] at o2
  have hB : ∀ p o, p ∉ ps' → p ∉ qs' → H p = some o → (if p ∈ ps' ∨ p ∈ qs' then none else H p) = some o := fun p o m m' e => by rw [if_neg (fun c => c.elim m m')]; exact e
  have hF : ∀ i p, p ∈ F1 i → S1 p = none ∧ (∃ o, H1 p = some o) ∧ (p ∈ ps' ∨ p ∈ qs' ∨ H p = none) := fun i p m => by
    obtain ⟨a1, a2, a3⟩ := k1.off i p m
    refine ⟨a1, a3, ?_⟩
    by_cases c : p ∈ ps'
    · exact .inl c
    · by_cases c' : p ∈ qs'
      · exact .inr (.inl c')
      · rw [if_neg (fun d => d.elim c c')] at a2
        exact .inr (.inr a2)
  exact q v S1 H1 (F1 0) (F1 1) b z' y' hR k1.s0 k1.sub (fun p o m m' e => k1.keep p o (hB p o m m' e)) (fun p o m m' e => k1.clean p o (hB p o m m' e)) (hF 0) (hF 1) (fun p m m' => absurd (k1.dj 0 1 p m m') (by decide)) o1 o2 r1
end
/-! two carried programs made at one place -/
def NewC {C : Addr} (g : Prog) (st : Stand) (h : Int) (z : Car C) : Prop := ∃ a w s f b, z = Car.mk a w s f b g st h 0 [] [] 0 none false Dct.emp 0 Dct.emp
section
variable {C : Addr} {K : Fg} {B S0 S1 S S' : Hp} {σ : L2.St} {H H1 H' : Hp} {F : Nat → List Addr} {G G' G1 G2 : List Sl} {i j ck i1 i2 : Nat} {t : TA} {u : TS} {E : Ends} {Ex : XK} {g : Prog} {st : Stand} {h : Int} {pv sv : V}
theorem make_at (σ : L2.St) (h1 : σ[i1]? = some (some pv)) (h2 : σ[i2]? = some (some sv)) (rg : Py.rep K S pv g) (rs : Py.rep K S sv st) {Q : VK}
    (q : ∀ (z : Car C) H', NewC g st h z → Own.own K S H' (.ref z.a) z.fp z → (∀ p ∈ z.fp, H p = none) → Same H H' → Q (.ref z.a) H') : tMake C (spCI K C) [] Ex (tCons (tVar i1) (tCons (tVar i2) (tCons (tC (.int h)) tNil))) σ H Q := by
  refine ⟨pv, h1, sv, h2, ?_⟩
  intro x dx hx hdx nx
  have hH : ∀ p o, H p = some o → upd (upd H dx (.own x)) x (.ins C dx []) p = some o := fun p o e => by
    rw [upd_ne (ne_of_none e hx), upd_ne (ne_of_none e hdx)]
    exact e
  have back : ∀ p, upd (upd H dx (.own x)) x (.ins C dx []) p = none → H p = none := fun p e => by
    cases c : H p with
    | none => rfl
    | some o => rw [hH p o c] at e; cases e
  refine ⟨S, x, dx, pv, sv, g, st, h, rfl, upd_same, rg, rs, fun w s f b H' nw ns nf nb c kp => ⟨rfl, ?_⟩⟩
  refine q (Car.mk (C := C) x w s f b g st h 0 [] [] 0 none false Dct.emp 0 Dct.emp) H' ⟨x, w, s, f, b, rfl⟩ ⟨rfl, rfl, dx, pv, sv, [], [], c⟩ (fun p hp => ?_) fun p o e => kp p o (ne_of_none e hx) (hH p o e)
  simp only [Car.fp, List.mem_cons, List.mem_nil_iff, or_false] at hp
  rcases hp with e | e | e | e | e <;> rw [e]
  · exact hx
  · exact back _ nw
  · exact back _ ns
  · exact back _ nf
  · exact back _ nb
theorem own_mov {z : Car C} {D : Addr} {o : HO} (h : Own.own K S H (.ref z.a) z.fp z) (n : D ∉ z.fp) : Own.own K S (upd H D o) (.ref z.a) z.fp z := Own.mono (Same.refl _) (fun p hp => upd_ne fun e => n (e ▸ hp)) h
theorem own_up {z : Car C} (h : Own.own K S H (.ref z.a) z.fp z) (e : Same H H') : Own.own K S H' (.ref z.a) z.fp z := by
  obtain ⟨_, _, dx, pv, sv, kf, kb, c⟩ := id h
  refine Own.mono (Same.refl _) (fun p hp => ?_) h
  obtain ⟨o, ho⟩ := c.some hp
  rw [ho, e p o ho]
theorem own_some {z : Car C} (h : Own.own K S H (.ref z.a) z.fp z) {p : Addr} (hp : p ∈ z.fp) : ∃ o, H p = some o := by
  obtain ⟨_, _, dx, pv, sv, kf, kb, c⟩ := id h
  exact c.some hp
theorem yes_if {σ : L2.St} {H : Hp} {P : Hp → Prop} {Q : Hp → Prop} (h : P H) : tYes σ H fun b H3 => if b = true then P H3 else Q H3 := by
  show (if true = true then P H else Q H)
  rw [if_pos rfl]
  exact h
theorem q_twoC (i j : Nat) (hi1 : G[i1]? = some (.im g)) (hi2 : G[i2]? = some (.im st)) (n1 : i1 ≠ ck) (n2 : i2 ≠ ck) (hi : G[i]?.isSome = true) (hj : G[j]?.isSome = true) (ne : i ≠ j) (k : ∀ z y : Car C, NewC g st h z → NewC g st h y → At K B S0 (u E) ((G.set i (.ow z)).set j (.ow y))) :
    At K B S0 (tSeq (tAsg (tLc (iRng1 (tCons (tC (.int 2)) tNil)) (gName ck) tYes (tMake C (spCI K C) [] Ex (tCons (tVar i1) (tCons (tVar i2) (tCons (tC (.int h)) tNil)))) [ck]) (gLst K 2 (gCons (gName i) (gCons (gName j) gNil)))) u E) G := fun S σ H1 F kn => by
  obtain ⟨pv, h1, rg⟩ := kn.sl i1 _ hi1
  obtain ⟨sv, h2, rs⟩ := kn.sl i2 _ hi2
  refine ⟨2, rfl, by decide, by decide, fun D hD => ?_⟩
  have hS : S D = none := (kn.free hD).1
  have hw : ∀ x : Int, wipe ((wipe σ [ck]).set ck (some (.int x))) [ck] = wipe σ [ck] := fun x => by
    apply List.ext_getElem?
    intro m
    by_cases c : m = ck
    · subst c
      simp [wipe]
    · simp [wipe, List.getElem?_set_ne (fun e => c e.symm)]
  have hg : ∀ (x : Int) (m : Nat), m ≠ ck → ((wipe σ [ck]).set ck (some (.int x)))[m]? = σ[m]? := fun x m c => by
    simp [wipe, List.getElem?_set_ne (fun e => c e.symm)]
  let W : Nat → Nat → Hp → Prop := fun n m H' => m = 2 - n ∧ Same H1 H' ∧ ((n = 0 ∧ H' D = some (.lst [])) ∨
    (n = 1 ∧ ∃ z : Car C, NewC g st h z ∧ Own.own K S H' (.ref z.a) z.fp z ∧ (∀ p ∈ z.fp, H1 p = none ∧ p ≠ D) ∧ H' D = some (.lst [.ref z.a])) ∨
    (n = 2 ∧ ∃ z y : Car C, NewC g st h z ∧ NewC g st h y ∧ Own.own K S H' (.ref z.a) z.fp z ∧ Own.own K S H' (.ref y.a) y.fp y ∧ (∀ p ∈ z.fp, H1 p = none ∧ p ≠ D) ∧ (∀ p ∈ y.fp, H1 p = none ∧ p ≠ D) ∧ (∀ p ∈ z.fp, p ∉ y.fp) ∧ H' D = some (.lst [.ref z.a, .ref y.a])))
  have same_D : ∀ {H2 : Hp} {o : HO}, Same H1 H2 → Same H1 (upd H2 D o) := fun e p o ho => by
    rw [upd_ne (ne_of_none ho hD)]
    exact e p o ho
  refine ⟨W, ⟨2, rfl, same_D (Same.refl _), .inl ⟨rfl, upd_same⟩⟩, fun n m H2 hW => ?_⟩
  obtain ⟨em, hs, hW⟩ := hW
  rcases hW with ⟨rfl, hd⟩ | ⟨rfl, z, nz, oz, fz, hd⟩ | ⟨rfl, z, y, nz, ny, oz, oy, fz, fy, dj, hd⟩
  · refine .inr ⟨by show 0 < 2; decide, fun H' => W 1 1 H', fun H' hh => ⟨1, by omega, hh⟩, fun x H' hx => ?_⟩
    obtain ⟨rfl, rfl⟩ := hx
    refine ⟨hw _, ?_⟩
    refine yes_if ?_
    refine make_at (K := K) (S := S) (g := g) (st := st) _ ((hg _ _ n1).trans h1) ((hg _ _ n2).trans h2) rg rs fun z H3 nz oz fz e3 => ?_
    have nD : D ∉ z.fp := fun m => by have := fz D m; rw [hd] at this; cases this
    refine ⟨[], e3 D _ hd, by decide, rfl, same_D (hs.trans e3), .inr (.inl ⟨rfl, z, nz, own_mov oz nD, fun p hp => ⟨?_, fun e => nD (e ▸ hp)⟩, upd_same⟩)⟩
    cases c : H1 p with
    | none => rfl
    | some o => have := fz p hp; rw [hs p o c] at this; cases this
  · refine .inr ⟨by show 1 < 2; decide, fun H' => W 2 0 H', fun H' hh => ⟨0, by omega, hh⟩, fun x H' hx => ?_⟩
    obtain ⟨rfl, rfl⟩ := hx
    refine ⟨hw _, ?_⟩
    refine yes_if ?_
    refine make_at (K := K) (S := S) (g := g) (st := st) _ ((hg _ _ n1).trans h1) ((hg _ _ n2).trans h2) rg rs fun y H3 ny oy fy e3 => ?_
    have nD : D ∉ y.fp := fun m => by have := fy D m; rw [hd] at this; cases this
    have nz' : D ∉ z.fp := fun m => (fz D m).2 rfl
    refine ⟨[.ref z.a], e3 D _ hd, by show 1 < sizeLine; decide, rfl, same_D (hs.trans e3), .inr (.inr ⟨rfl, z, y, nz, ny, own_mov (own_up oz e3) nz', own_mov oy nD, fz, fun p hp => ⟨?_, fun e => nD (e ▸ hp)⟩, fun p hp hq => ?_, upd_same⟩)⟩
    · cases c : H1 p with
      | none => rfl
      | some o => have := fy p hp; rw [hs p o c] at this; cases this
    · obtain ⟨o, ho⟩ := own_some oz hp
      have := fy p hq
      rw [ho] at this
      cases this
  · refine .inl ⟨by show 2 ≤ 2; decide, D, [.ref z.a, .ref y.a], rfl, SqL.of hd, rfl, ?_⟩
    have g2 : Grow S H1 S H2 := ⟨Same.refl _, fun p o e => hs p o (kn.sub p o e), hs, fun _ _ _ => rfl⟩
    have k2 := kn.grow g2
    have k3 := k2.setOwns (v := .ref z.a) (x := z) (i := i) (ps := z.fp) oz hi fun p hp => ⟨(kn.free (fz p hp).1).1, (kn.free (fz p hp).1).2.1, own_some oz hp, (kn.free (fz p hp).1).2.2⟩
    have k4 := k3.setOwns (v := .ref y.a) (x := y) (i := j) (ps := y.fp) oy (by rw [List.getElem?_set_ne ne]; exact hj) fun p hp => ⟨(kn.free (fy p hp).1).1, (kn.free (fy p hp).1).2.1, own_some oy hp, fun m hm => ?_⟩
    · exact ⟨.ref z.a, [.ref y.a], rfl, .ref y.a, [], rfl, rfl, k z y nz ny S ((σ.set i (some (.ref z.a))).set j (some (.ref y.a))) H2 _ k4⟩
    · by_cases c : m = i
      · rw [c, upF_self] at hm
        exact dj p hm hp
      · rw [upF_ne c] at hm
        exact (kn.free (fy p hp).1).2.2 m hm
end
section
variable {C : Addr} {K : Fg} {G : List Sl} {i : Nat} {Ex : XK} {m : Str} {β : Type} [Py β] {z : Car C} {f : Car C → Unit → β × Car C} {pre : Car C → Unit → Prop}
/-- a method that but reads -/
theorem ev_methR (hm : m ∉ carK) (hi : G[i]? = some (.ow z)) (hp : pre z ()) (hz : (f z ()).2 = z) : EvX K (tMeth C m (spM K f pre) [] Ex (tVar i) tNil) G (f z ()).1 G := by
  have h := ev_methM (K := K) (f := f) (Ex := Ex) hm hi ea_nil hi hp
  have e : G.set i (.ow (f z ()).2) = G := by
    rw [hz]
    apply List.ext_getElem?
    intro n
    by_cases c : i = n
    · subst c
      rw [List.getElem?_set_self (List.getElem?_eq_some_iff.mp hi).1, hi]
    · rw [List.getElem?_set_ne c]
  rw [e] at h
  exact h
end
end GL

/-! Rulebooks: abs, insert. -/
namespace GL
open PySem PySem.Spec PyProof.Rows L2
def rAbs : List V → Hp → VK → Prop := fun xs H Q => ∃ i, xs = [.int i] ∧ Q (.int (if i < 0 then -i else i)) H
def absI (n : Int) : Int := if n < 0 then -n else n
theorem call_absI {X : Cx} : CallR X (.builtin "abs") rAbs := call_abs
def rIns : V → List V → Hp → VK → Prop := fun x vs H Q => ∃ (l : Addr) (xs : List V) (i : Int) (y : V), x = .ref l ∧ vs = [.int i, y] ∧ H l = some (.lst xs) ∧ xs.length < sizeLine ∧ 0 ≤ i ∧ i < 2 ^ 63 ∧
    Q .non (upd H l (.lst (xs.take i.toNat ++ [y] ++ xs.drop i.toNat)))
theorem mt_ins {X : Cx} : MtR X "list.insert" rIns := mt_insert
section
variable {K : Fg} {B S0 S1 S S' D : Hp} {σ : L2.St} {H H' : Hp} {F : Nat → List Addr} {G G' G1 G2 : List Sl} {ta tb te : TE} {i : Nat} {u : TS} {E : Ends} {α : Type} [Py α]
theorem ev_abs {n : Int} (h : EvX K ta G n G1) : EvX K (tCB rAbs (tCons ta tNil)) G (absI n) G1 := fun B S0 S σ H F k Q q =>
  h B S0 S σ H F k _ fun v S1 H1 e1 k1 r1 => ⟨n, by rw [show v = .int n from r1], q _ S1 H1 e1 k1 rfl⟩
def insL (xs : List α) (n : Int) (x : α) : List α := xs.take n.toNat ++ [x] ++ xs.drop n.toNat
theorem q_ins {xs xs' : List α} {x : α} {n : Int} (hl : G[i]? = some (.ow xs)) (hn : EvX K tb G n G1) (h : EvX K te G1 x G2) (hl2 : G2[i]? = some (.ow xs')) (hz : xs'.length < sizeLine) (h0 : 0 ≤ n ∧ n ≤ 1000000) (k : ∀ y, y = insL xs' n x → At K B S0 (u E) (G2.set i (.ow y))) :
    At K B S0 (tSeq (tDrop (tBM K "list" rIns (tVar i) (tCons tb (tCons te tNil)))) u E) G := fun S σ H F kn => by
  obtain ⟨p, vs, h1, h2, h3, h4⟩ := own_list kn hl
  refine ⟨.ref p, h1, .inl ⟨rfl, _, SqL.of h3⟩, hn B S0 S σ H F kn _ fun w S1 H1 e1 k1 r1 => h B S0 S1 σ H1 F k1 _ fun v S2 H2 e2 k2 r2 => ?_⟩
  obtain ⟨p', vs', h1', h2', h3', h4'⟩ := own_list k2 hl2
  rw [h1] at h1'
  cases h1'
  refine ⟨p, vs', n, v, rfl, by rw [show w = .int n from r1], h3', by rw [h4'.len]; exact hz, h0.1, by omega, k _ rfl S2 σ _ F (own_listUpd k2 h1 h2' ?_)⟩
  unfold insL
  exact ((h4'.take n.toNat).snoc r2).app (h4'.drop n.toNat)
end
theorem insL_len {α : Type} (xs : List α) (n : Int) (x : α) : (insL xs n x).length = xs.length + 1 := by
  unfold insL
  rw [List.length_append, List.length_append, List.length_take, List.length_drop, List.length_singleton]
  omega
theorem mem_insL {α : Type} {xs : List α} {n : Int} {x y : α} (h : y ∈ insL xs n x) : y = x ∨ y ∈ xs := by
  unfold insL at h
  simp only [List.mem_append, List.mem_singleton] at h
  rcases h with (h | h) | h
  · exact .inr (List.mem_of_mem_take h)
  · exact .inl h
  · exact .inr (List.mem_of_mem_drop h)
/-! places by a number -/
section
variable {K : Fg} {G G1 G2 : List Sl} {ta tb : TE} {α β γ : Type} [Py α] [Py β] [Py γ]
def pixI (x : α × α) (n : Int) : α := if n = 0 then x.1 else x.2
def t4i (x : T4 α α β γ) (n : Int) : α := if n = 0 then x.a else x.b
def t4j (x : T4 α γ β β) (n : Int) : β := if n = 2 then x.c else x.d
theorem ev_pixI {x : α × α} {n : Int} (ha : EvX K ta G x G1) (hb : EvX K tb G1 n G2) (h : 0 ≤ n ∧ n < 2) : EvX K (tOp (rIxT K) ta tb) G (pixI x n) G2 := fun B S0 S σ H F k Q q =>
  ha B S0 S σ H F k _ fun v S1 H1 e1 k1 r1 => hb B S0 S1 σ H1 F k1 _ fun w S2 H2 e2 k2 r2 => by
    obtain ⟨p, a, b, rfl, hp, ra, rb⟩ := Py.mono e2 r1
    rcases (show n = 0 ∨ n = 1 by omega) with e | e
    · subst e
      exact ⟨p, _, 0, a, rfl, r2, seqT k2.sub hp, atI_nat (j := 0) rfl, q _ S2 H2 (e1.trans e2) k2 ra⟩
    · subst e
      exact ⟨p, _, 1, b, rfl, r2, seqT k2.sub hp, atI_nat (j := 1) rfl, q _ S2 H2 (e1.trans e2) k2 rb⟩
theorem ev_t4i {x : T4 α α β γ} {n : Int} (ha : EvX K ta G x G1) (hb : EvX K tb G1 n G2) (h : 0 ≤ n ∧ n < 2) : EvX K (tOp (rIxT K) ta tb) G (t4i x n) G2 := fun B S0 S σ H F k Q q =>
  ha B S0 S σ H F k _ fun v S1 H1 e1 k1 r1 => hb B S0 S1 σ H1 F k1 _ fun w S2 H2 e2 k2 r2 => by
    obtain ⟨p, a, b, c, d, rfl, hp, ra, rb, rc, rd⟩ := Py.mono e2 r1
    rcases (show n = 0 ∨ n = 1 by omega) with e | e
    · subst e
      exact ⟨p, _, 0, a, rfl, r2, seqT k2.sub hp, atI_nat (j := 0) rfl, q _ S2 H2 (e1.trans e2) k2 ra⟩
    · subst e
      exact ⟨p, _, 1, b, rfl, r2, seqT k2.sub hp, atI_nat (j := 1) rfl, q _ S2 H2 (e1.trans e2) k2 rb⟩
theorem ev_t4j {x : T4 α γ β β} {n : Int} (ha : EvX K ta G x G1) (hb : EvX K tb G1 n G2) (h : 2 ≤ n ∧ n < 4) : EvX K (tOp (rIxT K) ta tb) G (t4j x n) G2 := fun B S0 S σ H F k Q q =>
  ha B S0 S σ H F k _ fun v S1 H1 e1 k1 r1 => hb B S0 S1 σ H1 F k1 _ fun w S2 H2 e2 k2 r2 => by
    obtain ⟨p, a, b, c, d, rfl, hp, ra, rb, rc, rd⟩ := Py.mono e2 r1
    rcases (show n = 2 ∨ n = 3 by omega) with e | e
    · subst e
      exact ⟨p, _, 2, c, rfl, r2, seqT k2.sub hp, atI_nat (j := 2) rfl, q _ S2 H2 (e1.trans e2) k2 rc⟩
    · subst e
      exact ⟨p, _, 3, d, rfl, r2, seqT k2.sub hp, atI_nat (j := 3) rfl, q _ S2 H2 (e1.trans e2) k2 rd⟩
end
/-! a told new list that is one's own at once -/
section
variable {K : Fg} {B S0 : Hp} {G G1 : List Sl} {t : TA} {u : TS} {E : Ends} {Ex : XK} {α β : Type} [Py α] [NoL α] [PyA β] {f : β → List α} {pre : β → Prop} {a : β}
theorem q_ownN (i : Nat) (ha : EvA K t G a G1) (hp : pre a) (hi : G1[i]?.isSome = true) (k : ∀ y, y = f a → At K B S0 (u E) (G1.set i (.ow y))) : At K B S0 (tSeq (tAsg (tCall (spN K f pre) [] Ex t) (gName i)) u E) G := fun S σ H F kn =>
  ha B S0 S σ H F kn _ fun vs S1 H1 e1 k1 r1 => by
    show spN K f pre (vs ++ []) H1 _ Ex
    rw [List.append_nil]
    refine ⟨S1, a, k1.sub, r1, hp, fun v S2 H2 g r2 => ?_⟩
    obtain ⟨⟨p, ws, rfl, h2, h3⟩, q, eq, hq⟩ := r2
    cases eq
    have hS1 : S1 p = none := (k1.free hq).1
    have g' : Grow S1 H1 (del S2 p) H2 := by
      refine ⟨fun b o e => ?_, fun b o e => ?_, g.h, fun b o e => ?_⟩
      · have z : b ≠ p := fun z => by rw [z, hS1] at e; cases e
        rw [del_ne z]
        exact g.s b o e
      · by_cases z : b = p
        · rw [z, del_self] at e
          cases e
        · rw [del_ne z] at e
          exact g.sub b o e
      · have z : b ≠ p := fun z => by rw [z, hq] at e; cases e
        rw [del_ne z]
        exact g.cl b o e
    have hH2 : H2 p = some (.lst ws) := g.sub _ _ h2
    exact k _ rfl (del S2 p) _ H2 _ ((k1.grow g').setOwn (v := .ref p) ⟨p, ws, rfl, rfl, hH2, nlAll h2 h3⟩ hi del_self (k1.free hq).2.1 ⟨_, hH2⟩ (k1.free hq).2.2)
end
end GL

/-! States of rulebooks: sorted of a tuple, a module's tuple, lists of states' parts, data that are alike. -/
namespace PyProof.Rows
open PySem PySem.Spec
section
variable {prog : Program} {w : World} {A : Around} {E : Value → Shared → Prop} {s : Shared}
theorem collect_tupN {l : Addr} {vs : List Value} {Q : List Value → Shared → Prop} (ht : IsTup s.heap l vs.toArray) (hz : vs.length ≤ sizeLine)
    (hQ : Q vs { s with heap := (s.heap.push (seqObj "list" #[] 0)).update s.heap.objs.size (Obj.mapSeq (· ++ vs.toArray)) }) : wpAny (model prog w) A (collect (.ref l)) Q E s := by
  obtain ⟨ob, hob, hcl, m, hdt⟩ := id ht
  have hob2 : (s.heap.push (seqObj "list" #[] 0)).get? l = some ob := Heap.get?_push_of_some _ hob
  have hnew : (s.heap.push (seqObj "list" #[] 0)).get? s.heap.objs.size = some (seqObj "list" #[] 0) := Heap.get?_push_size _ rfl
  unfold collect; refine wpAny_bind (wpAny_runValue (codeAny_builtin entry_proto_collect' ?_))
  refine (show wpAny _ _ (do again (.builtin "list.__iadd__" ⟨[← newList [], .ref l], []⟩)) _ _ s from ?_)
  refine wpAny_bind (wpAny_newList (wpAny_pure ⟨Code.quiet_builtin _ (by decide +kernel), codeAny_builtin entry_list_iadd' (?_ : wpAny _ _ (Builtin.List.listExtendWith (.ref s.heap.objs.size) (.ref l) (.ref s.heap.objs.size)) _ _ { s with heap := s.heap.push (seqObj "list" #[] 0) })⟩))
  unfold Builtin.List.listExtendWith; refine wpAny_bind (wpAny_typeOf (T := "tuple") ⟨ob, hob2, hcl⟩ ?_)
  have htt : (Value.type "tuple" == Value.type "tuple") = true := by rfl
  rw [if_pos (by rw [htt]; simp)]; refine wpAny_bind (listItems_at hob2 hdt (wpAny_bind (listItems_at (xs := #[]) (n := 0) hnew rfl ?_)))
  rw [if_neg (by simp)]; refine wpAny_bind (listUpdate_at (xs := #[]) (n := 0) hnew rfl ?_ (Nat.zero_le _) (by show (#[] ++ vs.toArray).size ≤ sizeLine + 1; simp only [Array.size_append, List.size_toArray, List.length_nil]; omega))
  refine wpAny_pure (show wpAny (model prog w) A (do let o ← load s.heap.objs.size; match o.data with | .seq xs _ => pure xs.toList | _ => unsupported "internal:collect") Q E { s with heap := (s.heap.push (seqObj "list" #[] 0)).update s.heap.objs.size (Obj.mapSeq (· ++ vs.toArray)) } from ?_)
  refine wpAny_bind (wpAny_load (get?_update_seq hnew _) (show wpAny _ _ (pure ((#[] : Array Value) ++ vs.toArray).toList) Q E _ from ?_))
  rw [show ((#[] : Array Value) ++ vs.toArray).toList = vs by simp]; exact wpAny_pure hQ
theorem sorted_tupN {l : Addr} {vs : List Value} {ns : List Int} {Q : Value → Shared → Prop} (ht : IsTup s.heap l vs.toArray) (hi : IntsAre vs ns) (hz : vs.length ≤ sizeLine)
    (hQ : ∀ out : List Value, SrtO.Srtd SrtO.ltIv out → SrtO.Stb SrtO.ltIv out vs → Q (.ref (s.heap.objs.size + 1)) { s with heap := sortedAll s.heap vs out.toArray }) : wpAny (model prog w) A (call (.builtin "sorted") [.ref l]) Q E s := by
  refine Calls.call_function_entry kind_sorted plain_sorted entry_sorted (args_sorted1 _) ?_
  unfold Builtin.«sorted»; refine wpAny_bind (m := checkCount "sorted" 1 1 _) (wpAny_pure ?_)
  refine wpAny_bind (collect_tupN ht hz (wpAny_bind (wpAny_newList ?_ hz)))
  generalize eh : (s.heap.push (seqObj "list" #[] 0)).update s.heap.objs.size (Obj.mapSeq (· ++ vs.toArray)) = h1
  have hs1 : h1.objs.size = s.heap.objs.size + 1 := by rw [← eh, Heap.size_update, size_push']
  have ho1 : (h1.push (seqObj "list" vs.toArray 0)).get? (s.heap.objs.size + 1) = some (seqObj "list" vs.toArray 0) := by rw [← hs1]; exact Heap.get?_push_size _ rfl
  refine (show wpAny _ _ _ _ _ { s with heap := h1.push (seqObj "list" vs.toArray 0) } from ?_)
  rw [hs1]; refine wpAny_bind (wpAny_holding (wpAny_call_entry slot_list_sort ⟨_, ho1, rfl⟩ entry_list_sort (SrtO.list_sort_ord SrtO.swo_int ho1 hz (fun h2 => SrtO.ints_sortable hi h2) fun out a1 a2 => ⟨_, rfl, wpAny_pure ⟨_, rfl, ?_⟩⟩) (args_list_sort _)))
  have q := hQ out a1 a2
  unfold sortedAll at q
  rw [eh] at q; exact q
end
end PyProof.Rows
namespace L2
open PySem PySem.Spec PyProof.Rows
section
variable {X : Cx}
def rSortedTN (K : PySem.W.Frag) : List V → Hp → VK → Prop := fun vs H Q => ∃ (a : Addr) (ns : List Int), vs = [V.ref a] ∧ SqT K H a (ns.map V.int) ∧
  ∀ (ms : List Int) (p : Addr), ms.Perm ns → ms.Pairwise (· ≤ ·) → H p = none → Q (.ref p) (upd H p (.lst (ms.map V.int)))
theorem cr_sortedTN : CallR X (.builtin "sorted") (rSortedTN X.K) := by
  intro pins s σ H vs us Q I r h
  obtain ⟨a, ns, rfl, ht, q⟩ := h
  obtain ⟨its, rv, htup, hz⟩ := I.tuple ht
  rw [Vals.ref1 r]
  have hi := rv.ints
  refine PyProof.Rows.sorted_tupN htup hi (by rw [← rv.length]; exact hz) fun out a1 a2 => ?_
  obtain ⟨k1, k2, k3⟩ := SrtO.ints_out hi a1 a2
  obtain ⟨ep, hat⟩ := PyProof.Rows.sortedAll_at s.heap its out.toArray
  have hlen : ((out.map SrtO.iv).map V.int).length ≤ sizeLine := by rw [List.length_map, k2.length_eq]; rw [List.length_map] at hz; exact hz
  exact ⟨.ref _, upd H _ (.lst ((out.map SrtO.iv).map V.int)), I.laid (t' := s.toks) (fun _ _ => PyProof.Rows.sortedAll_old) (Nat.le_succ _) ⟨hlen, out, ep, vals_of_ints k1, hat⟩, rfl, q _ _ k2 k3 (I.hok.fresh (Nat.le_succ _))⟩
/-- a module's name, whatever stands there -/
def tGlob (mg : Str → Option Value) (x : Str) : TE := fun _ H Q => ∃ a, mg x = some (.ref a) ∧ Q (.ref a) H
theorem pe_globT {x : Str} {pos : Pos} (hg : Gl X x) (hd : (x == ("__debug__" : Str)) = false := by decide) : PE X (.Name x pos) (tGlob X.mg x) := ⟨fun pins s σ H Q I ⟨a, hm, q⟩ => (pe_glob (v := .ref a) hg hm rfl hd).run pins s σ H Q I q⟩
end
end L2
namespace GL
open PySem PySem.Spec PyProof.Rows L2
section
variable {K : Fg} {B S0 S1 S S' D : Hp} {σ : L2.St} {H H' : Hp} {F : Nat → List Addr} {G G' G1 G2 : List Sl} {ta tb te : TE} {i : Nat} {u : TS} {E : Ends} {α β γ δ : Type} [Py α] [Py β] [Py γ] [Py δ]
theorem el_sortedTN {xs : Tp Int} (h : EvX K ta G xs G1) : EvL K (tCB (rSortedTN K) (tCons ta tNil)) G (srt xs.l) G1 := fun B S0 S σ H F k Q q =>
  h B S0 S σ H F k _ fun v S1 H1 e1 k1 r1 => by
    obtain ⟨p, vs, rfl, hp, hr⟩ := r1
    rw [hr.ints] at hp
    refine ⟨p, xs.l, rfl, seqT k1.sub hp, fun ns l pm so hl => ?_⟩
    rw [srt_eq pm so]
    exact mk_list k1 hl (RepL.of_ints _) fun p vs S2 H2 e2 k2 a b c d r => q p vs S2 H2 (e1.trans e2) k2 a b c d r
/-! parts of a tuple of four -/
theorem ev_4a {w : T4 α β γ δ} (ha : EvX K ta G w G1) : EvX K (tOp (rIxT K) ta (tC (.int 0))) G w.a G1 := fun B S0 S σ H F k Q q =>
  ha B S0 S σ H F k _ fun v S1 H1 e1 k1 r1 => by
    obtain ⟨p, a, b, c, d, rfl, hp, h1, h2, h3, h4⟩ := r1
    exact ⟨p, _, 0, a, rfl, rfl, seqT k1.sub hp, atI_nat (j := 0) rfl, q a S1 H1 e1 k1 h1⟩
theorem ev_4b {w : T4 α β γ δ} (ha : EvX K ta G w G1) : EvX K (tOp (rIxT K) ta (tC (.int 1))) G w.b G1 := fun B S0 S σ H F k Q q =>
  ha B S0 S σ H F k _ fun v S1 H1 e1 k1 r1 => by
    obtain ⟨p, a, b, c, d, rfl, hp, h1, h2, h3, h4⟩ := r1
    exact ⟨p, _, 1, b, rfl, rfl, seqT k1.sub hp, atI_nat (j := 1) rfl, q b S1 H1 e1 k1 h2⟩
theorem ev_4c {w : T4 α β γ δ} (ha : EvX K ta G w G1) : EvX K (tOp (rIxT K) ta (tC (.int 2))) G w.c G1 := fun B S0 S σ H F k Q q =>
  ha B S0 S σ H F k _ fun v S1 H1 e1 k1 r1 => by
    obtain ⟨p, a, b, c, d, rfl, hp, h1, h2, h3, h4⟩ := r1
    exact ⟨p, _, 2, c, rfl, rfl, seqT k1.sub hp, atI_nat (j := 2) rfl, q c S1 H1 e1 k1 h3⟩
theorem ev_4d {w : T4 α β γ δ} (ha : EvX K ta G w G1) : EvX K (tOp (rIxT K) ta (tC (.int 3))) G w.d G1 := fun B S0 S σ H F k Q q =>
  ha B S0 S σ H F k _ fun v S1 H1 e1 k1 r1 => by
    obtain ⟨p, a, b, c, d, rfl, hp, h1, h2, h3, h4⟩ := r1
    exact ⟨p, _, 3, d, rfl, rfl, seqT k1.sub hp, atI_nat (j := 3) rfl, q d S1 H1 e1 k1 h4⟩
theorem ev_len4 {w : T4 α β γ δ} (ha : EvX K ta G w G1) : EvX K (tCB (rLenS K) (tCons ta tNil)) G (4 : Int) G1 := fun B S0 S σ H F k Q q =>
  ha B S0 S σ H F k _ fun v S1 H1 e1 k1 r1 => by
    obtain ⟨p, a, b, c, d, rfl, hp, h1, h2, h3, h4⟩ := r1
    exact ⟨p, _, rfl, .inr (seqT k1.sub hp), q _ S1 H1 e1 k1 rfl⟩
theorem tg_t4 {x : T4 α β γ δ} {g1 g2 g3 g4 : TG} {G3 G4 : List Sl} {t1 t2 t3 t4 : List Nat} (h1 : TgG K g1 x.a G G1 t1) (h2 : TgG K g2 x.b G1 G2 t2) (h3 : TgG K g3 x.c G2 G3 t3) (h4 : TgG K g4 x.d G3 G4 t4) :
    TgG K (gTup K 4 (gCons g1 (gCons g2 (gCons g3 (gCons g4 gNil))))) x G G4 (t1 ++ (t2 ++ (t3 ++ t4))) := ⟨fun j hj => (((h4.1 j (notL (notL (notL hj).2).2).2).trans (h3.1 j (notL (notL (notL hj).2).2).1)).trans (h2.1 j (notL (notL hj).2).1)).trans (h1.1 j (notL hj).1), fun B S0 S σ H F v k r Q q => by
  obtain ⟨p, a, b, c, d, rfl, hp, ra, rb, rc, rd⟩ := r
  refine ⟨p, [a, b, c, d], rfl, seqT k.sub hp, rfl, a, [b, c, d], rfl, h1.2 B S0 S σ H F a k ra _ fun σ1 k1 o1 w1 => ⟨b, [c, d], rfl, h2.2 B S0 S σ1 H F b k1 rb _ fun σ2 k2 o2 w2 => ⟨c, [d], rfl, h3.2 B S0 S σ2 H F c k2 rc _ fun σ3 k3 o3 w3 => ⟨d, [], rfl, h4.2 B S0 S σ3 H F d k3 rd _ fun σ4 k4 o4 w4 =>
    ⟨rfl, q σ4 k4 (fun j hj => (((o4 j (notL (notL (notL hj).2).2).2).trans (o3 j (notL (notL (notL hj).2).2).1)).trans (o2 j (notL (notL hj).2).1)).trans (o1 j (notL hj).1)) fun vs hv => ?_⟩⟩⟩⟩⟩
  rw [w4 vs fun t ht => hv t (List.mem_append_right _ (List.mem_append_right _ (List.mem_append_right _ ht))), w3 vs fun t ht => hv t (List.mem_append_right _ (List.mem_append_right _ (List.mem_append_left _ ht))), w2 vs fun t ht => hv t (List.mem_append_right _ (List.mem_append_left _ ht)), w1 vs fun t ht => hv t (List.mem_append_left _ ht)]⟩
theorem qg_t4 {w : T4 α β γ δ} (i j l m : Nat) (h : EvX K te G w G1) (hi : G1[i]?.isSome = true) (hj : (G1.set i (.im w.a))[j]?.isSome = true) (hl : ((G1.set i (.im w.a)).set j (.im w.b))[l]?.isSome = true) (hm : (((G1.set i (.im w.a)).set j (.im w.b)).set l (.im w.c))[m]?.isSome = true)
    (k : ∀ a b c d, a = w.a → b = w.b → c = w.c → d = w.d → At K B S0 (u E) ((((G1.set i (.im a)).set j (.im b)).set l (.im c)).set m (.im d))) :
    At K B S0 (tSeq (tAsg te (gTup K 4 (gCons (gName i) (gCons (gName j) (gCons (gName l) (gCons (gName m) gNil)))))) u E) G := q_asg h (tg_t4 (tg_name hi) (tg_name hj) (tg_name hl) (tg_name hm)) (k _ _ _ _ rfl rfl rfl rfl)
/-! a state's list -/
abbrev RSt := T4 Int Int (Tp Int) (Tp Int)
abbrev SPart := Sum Int (Tp Int)
instance : Inhabited SPart := ⟨.inl 0⟩
def sl4 (x : RSt) : List SPart := [.inl x.a, .inl x.b, .inr x.c, .inr x.d]
theorem el_listS {x : RSt} (h : EvX K ta G x G1) : EvL K (tCB (rListS K) (tCons ta tNil)) G (sl4 x) G1 := fun B S0 S σ H F k Q q =>
  h B S0 S σ H F k _ fun v S1 H1 e1 k1 r1 => by
    obtain ⟨p, a, b, c, d, rfl, hp, h1, h2, h3, h4⟩ := r1
    refine ⟨p, _, rfl, .inr (seqT k1.sub hp), fun l hl => ?_⟩
    exact mk_list k1 hl (show RepL K S1 [a, b, c, d] (sl4 x) from ⟨h1, h2, h3, h4, True.intro⟩) fun p vs S2 H2 e2 k2 a b c d r => q p vs S2 H2 (e1.trans e2) k2 a b c d r
theorem rep4 {ε : Type} [Py ε] {vs : List V} {x y z w : ε} (h : RepL K S vs [x, y, z, w]) : ∃ a b c d, vs = [a, b, c, d] ∧ Py.rep K S a x ∧ Py.rep K S b y ∧ Py.rep K S c z ∧ Py.rep K S d w := by
  have hl := h.len
  rcases vs with _ | ⟨a, _ | ⟨b, _ | ⟨c, _ | ⟨d, _ | ⟨e, l⟩⟩⟩⟩⟩ <;> simp only [List.length_cons, List.length_nil] at hl <;> first | omega | skip
  exact ⟨a, b, c, d, rfl, h.1, h.2.1, h.2.2.1, h.2.2.2.1⟩
theorem EvX.st {xs : Tp SPart} (x : RSt) (h : EvX K te G xs G1) (e : xs.l = sl4 x) : EvX K te G x G1 := fun B S0 S σ H F k Q q => h B S0 S σ H F k Q fun v S' H' e1 k' r => q v S' H' e1 k' (by
  obtain ⟨p, vs, h1, h2, h3⟩ := r
  rw [e] at h3
  obtain ⟨a, b, c, d, rfl, r1, r2, r3, r4⟩ := rep4 h3
  exact ⟨p, a, b, c, d, h1, h2, r1, r2, r3, r4⟩)
/-! the first state, a tuple of the module -/
def firstS : RSt := ⟨0, 0, ⟨[]⟩, ⟨[]⟩⟩
structure KTup (K : Fg) (a : Addr) (xs : List V) : Prop where
  at_ : ∃ (o : Obj) (its : Array Value) (n : Nat), K.lookup a = some o ∧ o.cls = .type "tuple" ∧ o.data = .seq its n ∧ its.size ≤ sizeLine ∧ Vals xs its.toList
def TFirst (K : Fg) (mg : Str → Option Value) (x : Str) : Prop := ∃ a e1 e2, mg x = some (.ref a) ∧ KTup K a [.int 0, .int 0, .ref e1, .ref e2] ∧ KTup K e1 [] ∧ KTup K e2 []
theorem ev_first {mg : Str → Option Value} {x : Str} (h : TFirst K mg x) : EvX K (tGlob mg x) G firstS G := fun B S0 S σ H F k Q q => by
  obtain ⟨a, e1, e2, hm, ha, h1, h2⟩ := h
  exact ⟨a, hm, q _ S H (Same.refl _) k ⟨a, .int 0, .int 0, .ref e1, .ref e2, rfl, .inr ha.at_, rfl, rfl, ⟨e1, [], rfl, .inr h1.at_, True.intro⟩, ⟨e2, [], rfl, .inr h2.at_, True.intro⟩⟩⟩
theorem tfirst_mk {mg : Str → Option Value} {x : Str} {a e f : Addr} {t1 t2 : Tok} {d1 d2 d3 : Option Addr} {n1 n2 n3 : Nat} {l1 l2 l3 : Array (Option Value)} (hm : mg x = some (.ref a)) (ha : K.lookup a = some ⟨.type "tuple", d1, .seq #[.int 0 t1, .int 0 t2, .ref e, .ref f] n1, l1⟩)
    (he : K.lookup e = some ⟨.type "tuple", d2, .seq #[] n2, l2⟩) (hf : K.lookup f = some ⟨.type "tuple", d3, .seq #[] n3, l3⟩) : TFirst K mg x :=
  ⟨a, e, f, hm, ⟨_, _, _, ha, rfl, rfl, by show 4 ≤ sizeLine; decide, .cons ⟨t1, rfl⟩ (.cons ⟨t2, rfl⟩ (.cons rfl (.cons rfl .nil)))⟩, ⟨_, _, _, he, rfl, rfl, by show 0 ≤ sizeLine; decide, .nil⟩, ⟨_, _, _, hf, rfl, rfl, by show 0 ≤ sizeLine; decide, .nil⟩⟩
/-! lists of data -/
theorem EvX.lstD [ToD α] {xs : List α} (h : EvX K te G xs G1) : EvX K te G (xs.map ToD.dat) G1 := fun B S0 S σ H F k Q q => h B S0 S σ H F k Q fun v S' H' e k' r => q v S' H' e k' (by
  obtain ⟨p, vs, h1, h2, h3⟩ := r
  exact ⟨p, vs, h1, h2, h3.toD.rep⟩)
theorem EvL.lstD [ToD α] {xs : List α} (h : EvL K te G xs G1) : EvL K te G (xs.map ToD.dat) G1 := fun B S0 S σ H F k Q q => h B S0 S σ H F k Q fun p vs S' H' e k' a b c d r => q p vs S' H' e k' a b c d r.toD.rep
end
instance {α β γ δ : Type} [Py α] [Py β] [Py γ] [Py δ] [ToD α] [ToD β] [ToD γ] [ToD δ] : ToD (T4 α β γ δ) := ⟨fun x => .tup [ToD.dat x.a, ToD.dat x.b, ToD.dat x.c, ToD.dat x.d], fun ⟨p, a, b, c, d, h1, h2, h3, h4, h5, h6⟩ => by
  rw [h1]; exact .tup h2 (.cons (ToD.of h3) (.cons (ToD.of h4) (.cons (ToD.of h5) (.cons (ToD.of h6) .nil))))⟩
instance {α β γ δ : Type} [Py α] [Py β] [Py γ] [Py δ] : Ty (T4 α β γ δ) "tuple" := ⟨fun e ⟨p, a, b, c, d, h1, h2, _⟩ => by rw [h1]; exact tyT e h2⟩
instance {α β γ δ ε : Type} [Py α] [Py β] [Py γ] [Py δ] [Py ε] : Ty (T5 α β γ δ ε) "tuple" := ⟨fun e' ⟨p, a, b, c, d, e, h1, h2, _⟩ => by rw [h1]; exact tyT e' h2⟩
section
variable {α β γ δ : Type} [Py α] [Py β] [Py γ] [Py δ]
instance [Dt α] [Dt β] [Dt γ] [Dt δ] : Dt (T4 α β γ δ) := ⟨fun x => .tuple [Dt.dat x.a, Dt.dat x.b, Dt.dat x.c, Dt.dat x.d], fun z ⟨p, a, b, c, d, h1, h2, h3, h4, h5, h6⟩ => by rw [h1]; exact .tup (seqT z h2) (.cons (Dt.dp z h3) (.cons (Dt.dp z h4) (.cons (Dt.dp z h5) (.cons (Dt.dp z h6) .nil)))),
  fun x => by simp [PyData.canLay0, PyData.canLayAll0, Dt.lay], max (Dt.dep α) (max (Dt.dep β) (max (Dt.dep γ) (Dt.dep δ))) + 1, fun x => by
    have h1 := Dt.dle x.a
    have h2 := Dt.dle x.b
    have h3 := Dt.dle x.c
    have h4 := Dt.dle x.d
    simp only [PyData.depth, PyData.depthAll]
    omega, fun x y => by
    simp only [PyData.eqv, PyData.eqvAll, Bool.and_eq_true, Dt.eq, and_true]
    cases x; cases y; simp⟩
end
/-! a def that may refuse, where it doesn't -/
theorem takes_never {X : Cx} : Takes X (fun _ _ _ _ => False) := fun u s' ⟨_, _, _, _, _, _, _, _, _, _, _, _, _, _, _, _, w⟩ => w.elim
section
variable {K : Fg} {G G1 : List Sl} {t : TA} {α β : Type} [PyA α] [Py β] {Y : XC → Addr} {W : WX}
theorem ev_callXok {f : α → XC ⊕ β} {pre : α → Prop} {a : α} (y : β) (ha : EvA K t G a G1) (hp : pre a) (e : f a = .inr y) : EvX K (tCallS (spX K Y f pre) (WE W) t) G y G1 := fun B S0 S σ H F k Q q =>
  ha B S0 S σ H F k _ fun vs S1 H1 e1 k1 r1 => ⟨S1, a, k1.sub, r1, hp, fun y' ey v S2 H2 g r2 => q v S2 H2 (e1.trans g.s) (k1.grow g) (by rw [e] at ey; cases ey; exact r2), fun x ex S2 H2 g => by rw [e] at ex; cases ex⟩
end
theorem el_listScr {K : Fg} {G G1 : List Sl} {ta : TE} {xs : Scr} (h : EvX K ta G xs G1) : EvL K (tCB (rListS K) (tCons ta tNil)) G xs.l G1 := fun B S0 S σ H F k Q q =>
  h B S0 S σ H F k _ fun v S1 H1 e1 k1 r1 => by
    obtain ⟨p, rfl, hp⟩ := r1
    refine ⟨p, _, rfl, .inl (k1.sub.seq hp), fun l hl => ?_⟩
    exact mk_list k1 hl (RepL.of_ints _) fun p vs S2 H2 e2 k2 a b c d r => q p vs S2 H2 (e1.trans e2) k2 a b c d r
section
variable {K : Fg} {G G1 : List Sl} {te : TE} {α : Type} [Py α] [ToD α]
theorem EvX.tpDat {xs : Tp α} (h : EvX K te G xs G1) : EvX K te G (Tp.mk (xs.l.map ToD.dat)) G1 := fun B S0 S σ H F k Q q => h B S0 S σ H F k Q fun v S' H' e k' r => q v S' H' e k' (by
  obtain ⟨p, vs, h1, h2, h3⟩ := r
  exact ⟨p, vs, h1, h2, h3.toD.rep⟩)
theorem EvX.asT4 {d : Dat} (h : EvX K te G d G1) (hd : d.isT = true) (hl : d.items.length = 4) : EvX K te G (T4.mk (ix d.items 0) (ix d.items 1) (ix d.items 2) (ix d.items 3)) G1 := fun B S0 S σ H F k Q q => (h.asT hd) B S0 S σ H F k Q fun v S' H' e k' r => q v S' H' e k' (by
  obtain ⟨p, vs, h1, h2, h3⟩ := r
  revert hl h3
  generalize d.items = l
  intro hl h3
  rcases l with _ | ⟨a, _ | ⟨b, _ | ⟨c, _ | ⟨d, _ | ⟨e, l⟩⟩⟩⟩⟩ <;> simp only [List.length_cons, List.length_nil] at hl <;> first | omega | skip
  obtain ⟨a', b', c', d', rfl, r1, r2, r3, r4⟩ := rep4 h3
  exact ⟨p, a', b', c', d', h1, h2, r1, r2, r3, r4⟩)
end
/-! data that are alike -/
mutual
def Dat.pd : Dat → PyData
  | .non => .none
  | .int i => .int i
  | .bl b => .bool b
  | .str s => .str s
  | .tup l => .tuple (pdL l)
  | .lst l => .list (pdL l)
def pdL : List Dat → List PyData
  | [] => []
  | d :: l => d.pd :: pdL l
end
mutual
theorem DRep.dp {K : Fg} {S : Hp} : ∀ {v : V} {d : Dat}, DRep K S v d → Dp K S v d.pd
  | _, _, .non => .non
  | _, _, .int i => .int i
  | _, _, .bl i => .bl i
  | _, _, .str i => .str i
  | _, _, .tup h r => .tup h (DRepL.dp r)
  | _, _, .lst h r => .lst (SqL.of h) (DRepL.dp r)
theorem DRepL.dp {K : Fg} {S : Hp} : ∀ {vs : List V} {l : List Dat}, DRepL K S vs l → DpAll K S vs (pdL l)
  | _, _, .nil => .nil
  | _, _, .cons h r => .cons (DRep.dp h) (DRepL.dp r)
end
mutual
theorem pd_refl : ∀ d : Dat, PyData.eqv d.pd d.pd = true
  | .non => by simp [Dat.pd, PyData.eqv]
  | .int i => by simp [Dat.pd, PyData.eqv]
  | .bl b => by simp [Dat.pd, PyData.eqv]
  | .str s => by simp [Dat.pd, PyData.eqv]
  | .tup l => by simp [Dat.pd, PyData.eqv, pdL_refl l]
  | .lst l => by simp [Dat.pd, PyData.eqv, pdL_refl l]
theorem pdL_refl : ∀ l : List Dat, PyData.eqvAll (pdL l) (pdL l) = true
  | [] => by simp [pdL, PyData.eqvAll]
  | d :: l => by simp [pdL, PyData.eqvAll, pd_refl d, pdL_refl l]
end
/-- data whose texts are plain, not too deep -/
inductive DPl : Nat → Dat → Prop
  | non {k : Nat} : DPl k .non
  | int {k : Nat} {i : Int} : DPl k (.int i)
  | bl {k : Nat} {i : Bool} : DPl k (.bl i)
  | str {k : Nat} {s : Str} : (PyData.str s).canLay0 = true → DPl k (.str s)
  | tup {k : Nat} {l : List Dat} : (∀ x ∈ l, DPl k x) → DPl (k + 1) (.tup l)
  | lst {k : Nat} {l : List Dat} : (∀ x ∈ l, DPl k x) → DPl (k + 1) (.lst l)
theorem pl_all {k : Nat} : ∀ {l : List Dat}, (∀ x ∈ l, x.pd.canLay0 = true ∧ x.pd.depth ≤ k) → PyData.canLayAll0 (pdL l) = true ∧ PyData.depthAll (pdL l) ≤ k
  | [], _ => ⟨rfl, Nat.zero_le _⟩
  | x :: l, h => by
    obtain ⟨a, b⟩ := h x List.mem_cons_self
    obtain ⟨c, d⟩ := pl_all (l := l) fun y hy => h y (List.mem_cons_of_mem _ hy)
    refine ⟨by rw [pdL, PyData.canLayAll0, a, c]; rfl, ?_⟩
    rw [pdL]
    simp only [PyData.depthAll]
    omega
theorem DPl.lay {k : Nat} {d : Dat} (h : DPl k d) : d.pd.canLay0 = true ∧ d.pd.depth ≤ k := by
  induction h with
  | non => exact ⟨rfl, Nat.zero_le _⟩
  | int => exact ⟨rfl, Nat.zero_le _⟩
  | bl => exact ⟨rfl, Nat.zero_le _⟩
  | str h => exact ⟨h, Nat.zero_le _⟩
  | tup _ ih =>
    obtain ⟨a, b⟩ := pl_all ih
    exact ⟨by rw [Dat.pd, PyData.canLay0]; exact a, by rw [Dat.pd, PyData.depth]; exact Nat.succ_le_succ b⟩
  | lst _ ih =>
    obtain ⟨a, b⟩ := pl_all ih
    exact ⟨by rw [Dat.pd, PyData.canLay0]; exact a, by rw [Dat.pd, PyData.depth]; exact Nat.succ_le_succ b⟩
theorem pl_int {k : Nat} {xs : List Int} : ∀ x ∈ xs.map (ToD.dat (α := Int)), DPl k x := fun x hx => by
  obtain ⟨n, _, e⟩ := List.mem_map.mp hx
  rw [← e]
  exact .int
theorem pl_ix {k : Nat} {xs : List Dat} {n : Int} (h : ∀ x ∈ xs, DPl k x) : DPl k (ix xs n) := by
  unfold ix
  rw [List.getD_eq_getElem?_getD]
  cases e : xs[n.toNat]? with
  | none => exact .non
  | some x => exact h x (List.mem_of_getElem? e)
theorem DPl.up {k : Nat} {d : Dat} (h : DPl k d) : DPl (k + 1) d := by
  induction h with
  | non => exact .non
  | int => exact .int
  | bl => exact .bl
  | str h => exact .str h
  | tup _ ih => exact .tup ih
  | lst _ ih => exact .lst ih
theorem DPl.shaped {k : Nat} {d : Dat} (h : DPl k d) (hk : k ≤ 64) : SeqAt.shaped d.pd = true := by
  obtain ⟨a, b⟩ := h.lay
  unfold SeqAt.shaped
  rw [a, decide_eq_true (Nat.le_trans b hk)]
  rfl
section
variable {K : Fg} {G G1 G2 : List Sl} {ta tb : TE} {k : Nat}
theorem ev_eqDD {x y : Dat} (k : Nat) (ha : EvX K ta G x G1) (hb : EvX K tb G1 y G2) (e : y = x) (h : DPl k x) (hk : k ≤ 64) : EvX K (tOp (rEqD K) ta tb) G true G2 := fun B S0 S σ H F kn Q q => by
  subst e
  exact ha B S0 S σ H F kn _ fun v S1 H1 e1 k1 r1 => hb B S0 S1 σ H1 F k1 _ fun w S2 H2 e2 k2 r2 =>
    have s := h.shaped hk
    ⟨_, _, (DRep.mono (e2.trans k2.sub) r1).dp, (DRep.mono k2.sub r2).dp, s, s, q _ S2 H2 (e1.trans e2) k2 (by rw [pd_refl]; rfl)⟩
theorem lst_dp {S H : Hp} {v : V} {xs : List Dat} (e : Same S H) (r : Py.rep K S v xs) : Dp K H v (Dat.lst xs).pd := by
  obtain ⟨p, vs, rfl, h2, h3⟩ := r
  rw [Dat.pd]
  exact .lst (SqL.of (e _ _ h2)) (h3.drep.mono e).dp
theorem ev_eqLD {xs ys : List Dat} (k : Nat) (ha : EvX K ta G xs G1) (hb : EvX K tb G1 ys G2) (e : ys = xs) (h : ∀ x ∈ xs, DPl k x) (hk : k < 64) : EvX K (tOp (rEqD K) ta tb) G true G2 := fun B S0 S σ H F kn Q q => by
  subst e
  exact ha B S0 S σ H F kn _ fun v S1 H1 e1 k1 r1 => hb B S0 S1 σ H1 F k1 _ fun w S2 H2 e2 k2 r2 =>
    have s := (DPl.lst h).shaped hk
    ⟨_, _, lst_dp k2.sub (Py.mono e2 r1), lst_dp k2.sub r2, s, s, q _ S2 H2 (e1.trans e2) k2 (by rw [pd_refl]; rfl)⟩
end
end GL

/-! Keys that are tuples of plain things and of tuples of plain things. -/
namespace GL
open PySem
open PySem.Sem (wp)
section
variable {prog : Program} {w : World} {κ : Type} [DecidableEq κ] (knd : KeyKind prog w κ)
abbrev NK (κ : Type) := List (κ ⊕ List κ)
def ItemN (h : Heap) : κ ⊕ List κ → Value → Prop
  | .inl k, v => knd.is k v = true
  | .inr l, v => ∃ b, v = .ref b ∧ IsTupleKey knd h l b
inductive ItemsN (h : Heap) : NK κ → List Value → Prop
  | nil : ItemsN h [] []
  | cons {k : κ ⊕ List κ} {v : Value} {ks : NK κ} {vs : List Value} : ItemN knd h k v → ItemsN h ks vs → ItemsN h (k :: ks) (v :: vs)
def IsNK (h : Heap) (ks : NK κ) (a : Addr) : Prop := ∃ o items n, h.get? a = some o ∧ o.cls = .type "tuple" ∧ o.data = .seq items n ∧ ItemsN knd h ks items.toList
variable {knd}
theorem ItemN.inj {h : Heap} {x y : κ ⊕ List κ} {v : Value} (hx : ItemN knd h x v) (hy : ItemN knd h y v) : x = y := by
  cases x with
  | inl k =>
    cases y with
    | inl k' => exact congrArg Sum.inl (knd.inj _ _ _ hx hy)
    | inr l' =>
      obtain ⟨b, rfl, _⟩ := hy
      have := knd.byValue _ _ hx
      simp [carriedByValue] at this
  | inr l =>
    obtain ⟨b, rfl, hl⟩ := hx
    cases y with
    | inl k' =>
      have := knd.byValue _ _ hy
      simp [carriedByValue] at this
    | inr l' =>
      obtain ⟨b', e, hl'⟩ := hy
      cases e
      exact congrArg Sum.inr (hl.inj hl')
theorem ItemsN.inj {h : Heap} {x y : NK κ} {vs : List Value} (hx : ItemsN knd h x vs) (hy : ItemsN knd h y vs) : x = y := by
  induction hx generalizing y with
  | nil => cases hy; rfl
  | cons h1 _ ih =>
    cases hy with
    | cons h2 t2 => rw [h1.inj h2, ih t2]
theorem IsNK.typeIs {s : Shared} {ks : NK κ} {a : Addr} (x : IsNK knd s.heap ks a) : s.TypeIs (.ref a) "tuple" := let ⟨o, _, _, ho, hc, _⟩ := x; ⟨o, ho, hc⟩
theorem IsNK.inj {h : Heap} {a : Addr} {x y : NK κ} (hx : IsNK knd h x a) (hy : IsNK knd h y a) : x = y := by
  obtain ⟨o, items, n, ho, _, hd, hi⟩ := hx
  obtain ⟨o', items', n', ho', _, hd', hi'⟩ := hy
  obtain rfl : o = o' := Option.some.inj (ho.symm.trans ho')
  rw [hd] at hd'
  injection hd' with h1 _
  subst h1
  exact hi.inj hi'
theorem ItemsN.keeps {h h' : Heap} {d : Addr} {o : Obj} {es ep} (ho : h.get? d = some o) (hd : o.data = .dict es ep) (hs : Heap.SameBut d h h') {ks : NK κ} {vs : List Value} (x : ItemsN knd h ks vs) : ItemsN knd h' ks vs := by
  induction x with
  | nil => exact .nil
  | @cons k v ks vs h1 _ ih =>
    refine .cons ?_ ih
    cases k with
    | inl k => exact h1
    | inr l =>
      obtain ⟨b, e, hl⟩ := h1
      exact ⟨b, e, hl.keeps ho hd hs⟩
theorem IsNK.keeps {h h' : Heap} {ks : NK κ} {a d : Addr} {o : Obj} {es ep} (x : IsNK knd h ks a) (ho : h.get? d = some o) (hd : o.data = .dict es ep) (hs : Heap.SameBut d h h') : IsNK knd h' ks a := by
  obtain ⟨o', items, n, ho', hc, hd', hi⟩ := x
  have hne : a ≠ d := by
    rintro rfl
    obtain rfl : o' = o := Option.some.inj (ho'.symm.trans ho)
    rw [hd] at hd'
    exact nomatch hd'
  exact ⟨o', items, n, (hs.2 a hne).trans ho', hc, hd', hi.keeps ho hd hs⟩
variable (knd) in
def itemHash : κ ⊕ List κ → Int
  | .inl k => knd.hash k
  | .inr l => tupleKeyHash knd l
def itemDraws : κ ⊕ List κ → Nat
  | .inl _ => 1
  | .inr l => l.length + 1
def nkDraws (ks : NK κ) : Nat := (ks.map itemDraws).sum + 1
variable (knd) in
def nkHash (ks : NK κ) : Int := reduceHash (Builtin.Tuple.tupleHashOf (ks.map (itemHash knd)))
variable {A : Around} {E : Value → Shared → Prop} {s : Shared}
theorem hash_item {k : κ ⊕ List κ} {v : Value} {Q : Int → Shared → Prop} (hu : A.units < cLine) (hk : ItemN knd s.heap k v) (h : Q (itemHash knd k) { s with toks := s.toks + itemDraws k }) : wpAny (model prog w) A (pyHash v) Q E s := by
  cases k with
  | inl k => exact knd.pyHash hk h
  | inr l =>
    obtain ⟨b, rfl, hl⟩ := hk
    exact wpAny_pyHash_tuple hu hl h
theorem hash_nk {ks : NK κ} {a : Addr} {Q : Int → Shared → Prop} (hu : A.units + 1 < cLine) (hk : IsNK knd s.heap ks a) (h : Q (nkHash knd ks) { s with toks := s.toks + nkDraws ks }) :
    wpAny (model prog w) A (pyHash (.ref a)) Q E s := by
  have hT := hk.typeIs
  obtain ⟨o, items, n, ho, _, hd, hi⟩ := hk
  unfold pyHash
  first | unfold pyHashByItsType | skip
  first | refine wpAny_bind (wpAny_cRoomFor_or (.inr (Nat.lt_of_succ_lt hu)) ?_) | skip
  refine wpAny_bind (wpAny_specialOf hT F.slot_tuple_hash.lookup ?_)
  show wpAny _ _ (if (some (Value.builtin "tuple.__hash__") == some Value.none) = true then _ else _) Q E s
  rw [if_neg (by rw [beq_builtin_none]; exact Bool.false_ne_true)]
  refine wpAny_bind (wpAny_specialOf hT F.slot_tuple_hash.lookup ?_)
  show wpAny _ _ (callSpecialIfBoundUnlessNone? (.ref a) "__hash__" _ >>= _) Q E s
  refine wpAny_bind (wpAny_callSpecialIfBoundUnlessNone?_slot hT F.slot_tuple_hash (wpAny_call_entry F.slot_tuple_hash hT F.entry_tuple_hash ?_ (F.args_tuple_hash_1 _)))
  show wpAny _ _ (Builtin.Tuple.tupleItemsOf (.ref a) >>= _) _ _ s
  refine wpAny_bind (wpAny_tupleItemsOf ho hd ?_)
  refine wpAny_bind ?_
  rw [← Array.forIn_toList]
  refine wpAny_forIn_list _
    (fun rest (b : Array Int) s' => ∃ done left, ks = done ++ left ∧ ItemsN knd s.heap left rest ∧ b.toList = done.map (itemHash knd) ∧ s' = { s with toks := s.toks + (done.map itemDraws).sum })
    _ ?_ ?_ _ _ ⟨[], ks, rfl, hi, rfl, rfl⟩
  · rintro x rest b s' ⟨done, left, rfl, hl, hb, rfl⟩
    cases hl with
    | @cons k _ ks' _ h1 hl' =>
      refine wpAny_bind (hash_item (by first | exact hu | exact Nat.lt_of_succ_lt hu) h1 ?_)
      first
        | exact wpAny_pure ⟨done ++ [k], ks', by simp, hl', by simp [hb], by simp [Nat.add_assoc]⟩
        | exact wpAny_bind (wpAny_pure (wpAny_pure ⟨done ++ [k], ks', by simp, hl', by simp [hb], by simp [Nat.add_assoc]⟩))
  · rintro b s' ⟨done, left, rfl, hl, hb, rfl⟩
    cases hl
    rw [List.append_nil] at h
    show wpAny _ _ (retInt (Builtin.Tuple.tupleHashOf b.toList)) _ _ _
    rw [hb]
    refine wpAny_ret_mkInt ?_
    show wpAny _ _ (if (decide (-(2 : Int) ^ 63 ≤ Builtin.Tuple.tupleHashOf (done.map (itemHash knd))) && decide (Builtin.Tuple.tupleHashOf (done.map (itemHash knd)) < 2 ^ 63)) = true then _ else _) Q E _
    unfold nkHash reduceHash nkDraws at h
    by_cases hr : (decide (-(2 : Int) ^ 63 ≤ Builtin.Tuple.tupleHashOf (done.map (itemHash knd))) && decide (Builtin.Tuple.tupleHashOf (done.map (itemHash knd)) < 2 ^ 63)) = true
    · rw [if_pos hr]
      rw [if_pos hr] at h
      exact wpAny_pure (by simpa [Nat.add_assoc] using h)
    · rw [if_neg hr]
      rw [if_neg hr] at h
      exact wpAny_bind (wpAny_rule (wpAny_pure (by simpa [Nat.add_assoc] using h)))
def side : κ ⊕ List κ → Bool
  | .inl _ => true
  | .inr _ => false
theorem eq_item {x y : κ ⊕ List κ} {u v : Value} {Q : Bool → Shared → Prop} (hu : A.units < cLine) (hs : side x = side y) (hx : ItemN knd s.heap x u) (hy : ItemN knd s.heap y v) (h : Q (decide (x = y)) s) : wpAny (model prog w) A (eqBool u v) Q E s := by
  cases x with
  | inl k =>
    cases y with
    | inl k' => exact knd.eqBool (a := k) (b := k') hx hy (by rw [show decide (k = k') = decide ((Sum.inl k : κ ⊕ List κ) = .inl k') by simp]; exact h)
    | inr l' => cases hs
  | inr l =>
    obtain ⟨b, rfl, hl⟩ := hx
    cases y with
    | inl k' => cases hs
    | inr l' =>
      obtain ⟨b', rfl, hl'⟩ := hy
      exact wpAny_eqBool_tuple hu hl hl' (by rw [show decide (l = l') = decide ((Sum.inr l : κ ⊕ List κ) = .inr l') by simp]; exact h)
theorem eq_tree {x y : NK κ} {a b : Addr} {P : Fin → Shared → Prop} (hu : A.units < cLine) (hsd : x.map side = y.map side) (hx : IsNK knd s.heap x a) (hy : IsNK knd s.heap y b) (h : P (.done (.ret (.bool (decide (x = y))))) s) :
    wpAny (model prog w) A (Builtin.«tuple.__eq__» ⟨[.ref a, .ref b], []⟩) P E s := by
  have hTb := hy.typeIs
  obtain ⟨oa, xs, na, hoa, _, hda, hia⟩ := hx
  obtain ⟨ob, ys, nb, hob, _, hdb, hib⟩ := hy
  show wpAny _ _ (isInstance (.ref b) (.type "tuple") >>= _) _ _ s
  refine wpAny_bind (wpAny_isInstance hTb isSubtype_tuple_tuple ?_)
  simp only [Bool.not_true, Bool.false_eq_true, if_false]
  refine wpAny_bind (wpAny_tupleItemsOf hoa hda ?_)
  refine wpAny_bind (wpAny_tupleItemsOf hob hdb ?_)
  refine wpAny_bind ?_
  refine wpAny_forIn_list _
    (fun rest r s' => r.1 = none ∧ s' = s ∧ ∃ x' y' xs' ys', rest = List.zip xs' ys' ∧ ItemsN knd s.heap x' xs' ∧ ItemsN knd s.heap y' ys' ∧ x'.map side = y'.map side ∧ decide (x' = y') = decide (x = y) ∧ (xs'.length == ys'.length) = (xs.size == ys.size))
    _ ?_ ?_ _ _ ⟨rfl, rfl, x, y, xs.toList, ys.toList, rfl, hia, hib, hsd, rfl, by simp⟩
  · rintro ⟨u, v⟩ rest r s' ⟨hr, rfl, x', y', xs', ys', hz, hx', hy', hsd', hdec, hlen⟩
    cases hx' with
    | nil => simp at hz
    | @cons k1 u' x'' xs'' h1 hx'' =>
      cases hy' with
      | nil => simp at hz
      | @cons k2 v' y'' ys'' h2 hy'' =>
        simp only [List.zip_cons_cons, List.cons.injEq, Prod.mk.injEq] at hz
        obtain ⟨⟨rfl, rfl⟩, rfl⟩ := hz
        simp only [List.map_cons, List.cons.injEq] at hsd'
        refine wpAny_bind (eq_item hu hsd'.1 h1 h2 ?_)
        by_cases hk : k1 = k2
        · subst hk
          rw [decide_eq_true rfl]
          simp only [Bool.not_true, Bool.false_eq_true, if_false]
          refine wpAny_pure ⟨rfl, rfl, x'', y'', xs'', ys'', rfl, hx'', hy'', hsd'.2, ?_, by simpa using hlen⟩
          rw [← hdec]
          by_cases hxy : x'' = y''
          · simp [hxy]
          · simp [hxy]
        · rw [decide_eq_false hk]
          simp only [Bool.not_false, if_true]
          have hf : decide (x = y) = false := by rw [← hdec]; simp [hk]
          rw [hf] at h
          exact wpAny_bind (wpAny_pure (wpAny_pure (wpAny_pure h)))
  · rintro ⟨r1, r2⟩ s' ⟨hr, rfl, x', y', xs', ys', hz, hx', hy', hsd', hdec, hlen⟩
    simp only at hr
    subst hr
    refine wpAny_pure ?_
    have hfin : (xs.size == ys.size) = decide (x = y) := by
      rw [← hdec, ← hlen]
      cases hx' with
      | nil =>
        cases hy' with
        | nil => simp
        | cons _ _ => simp
      | cons _ _ =>
        cases hy' with
        | nil => simp
        | cons _ _ => simp at hz
    show P (.done (.ret (.bool (xs.size == ys.size)))) s'
    rw [hfin]
    exact h
theorem eq_nk {x y : NK κ} {a b : Addr} {Q : Bool → Shared → Prop} (hu : A.units + 1 < cLine) (hsd : x.map side = y.map side) (hx : IsNK knd s.heap x a) (hy : IsNK knd s.heap y b) (h : Q (decide (x = y)) s) :
    wpAny (model prog w) A (eqBool (.ref a) (.ref b)) Q E s := by
  unfold eqBool
  try with_reducible refine wpAny_holding ?_
  show wpAny _ _ (if (Value.ref a == Value.ref b) = true then _ else _) Q E s
  by_cases hab : (Value.ref a == Value.ref b) = true
  · rw [if_pos hab]
    have e : a = b := by have := eq_of_beq hab; injection this
    subst e
    obtain rfl := hx.inj hy
    exact wpAny_bind (wpAny_rule (wpAny_pure (by simpa using h)))
  · rw [if_neg hab]
    exact wpAny_bind (wpAny_richCompare_same_room (op := .Eq) hx.typeIs hy.typeIs F.slot_tuple_eq
      (wpAny_call_entry F.slot_tuple_eq hx.typeIs F.entry_tuple_eq (eq_tree (by first | exact hu | exact Nat.lt_of_succ_lt hu) hsd hx hy ⟨_, rfl, (fun e => nomatch e), wpAny_truthy_bool h⟩) (F.args_tuple_eq_2 _ _)) (Nat.lt_of_succ_lt hu))
theorem quiet_tup (n : Nat) {ks : List κ} {a : Addr} {Q : Bool → Shared → Prop} (hk : IsTupleKey knd s.heap ks a) (h : Q true s) : wpAny (model prog w) A (eqIsQuiet (n + 1) (.ref a)) Q E s := by
  have hT := hk.typeIs
  obtain ⟨o, items, n', ho, _, hd, hi⟩ := hk
  unfold eqIsQuiet
  refine wpAny_bind (wpAny_specialOf hT F.slot_tuple_eq.lookup ?_)
  show wpAny _ _ (isInstance (.ref a) (.type "tuple") >>= _) _ _ s
  refine wpAny_bind (wpAny_isInstance hT isSubtype_tuple_tuple ?_)
  simp only [Bool.not_true, Bool.false_eq_true, if_false]
  refine wpAny_bind (wpAny_seqItems ho hd ?_)
  refine wpAny_bind ?_
  show wpAny _ _ (forIn items _ _) _ _ s
  rw [← Array.forIn_toList]
  refine wpAny_forIn_list _ (fun rest r s' => r.1 = none ∧ s' = s ∧ ∀ v ∈ rest, carriedByValue v = true) _ ?_ ?_ _ _ ⟨rfl, rfl, hi.byValue⟩
  · rintro v rest r s' ⟨hr, rfl, hall⟩
    rw [eqIsQuiet_byValue _ (hall v List.mem_cons_self)]
    refine wpAny_bind (wpAny_pure ?_)
    simp only [Bool.not_true, Bool.false_eq_true, if_false]
    exact wpAny_pure ⟨rfl, rfl, fun u hu' => hall u (List.mem_cons_of_mem _ hu')⟩
  · rintro ⟨r1, r2⟩ s' ⟨hr, rfl, _⟩
    simp only at hr
    subst hr
    exact wpAny_pure h
theorem quiet_nk {ks : NK κ} {a : Addr} {Q : Bool → Shared → Prop} (hk : IsNK knd s.heap ks a) (h : Q true s) : wpAny (model prog w) A (eqIsQuiet 8 (.ref a)) Q E s := by
  have hT := hk.typeIs
  obtain ⟨o, items, n', ho, _, hd, hi⟩ := hk
  unfold eqIsQuiet
  refine wpAny_bind (wpAny_specialOf hT F.slot_tuple_eq.lookup ?_)
  show wpAny _ _ (isInstance (.ref a) (.type "tuple") >>= _) _ _ s
  refine wpAny_bind (wpAny_isInstance hT isSubtype_tuple_tuple ?_)
  simp only [Bool.not_true, Bool.false_eq_true, if_false]
  refine wpAny_bind (wpAny_seqItems ho hd ?_)
  refine wpAny_bind ?_
  show wpAny _ _ (forIn items _ _) _ _ s
  rw [← Array.forIn_toList]
  refine wpAny_forIn_list _ (fun rest r s' => r.1 = none ∧ s' = s ∧ ∃ left, ItemsN knd s.heap left rest) _ ?_ ?_ _ _ ⟨rfl, rfl, ks, hi⟩
  · rintro v rest r s' ⟨hr, rfl, left, hall⟩
    cases hall with
    | @cons k _ ks' _ h1 hl' =>
      have go : ∀ {Q' : Bool → Shared → Prop}, Q' true s' → wpAny (model prog w) A (eqIsQuiet 7 v) Q' E s' := fun q => by
        cases k with
        | inl k =>
          rw [eqIsQuiet_byValue _ (knd.byValue _ _ h1)]
          exact wpAny_pure q
        | inr l =>
          obtain ⟨b, rfl, hl⟩ := h1
          exact quiet_tup 6 hl q
      refine wpAny_bind (go ?_)
      simp only [Bool.not_true, Bool.false_eq_true, if_false]
      exact wpAny_pure ⟨rfl, rfl, ks', hl'⟩
  · rintro ⟨r1, r2⟩ s' ⟨hr, rfl, _⟩
    simp only at hr
    subst hr
    exact wpAny_pure h
end
/-- keys of one shape -/
def nkKind {prog : Program} {w : World} {κ : Type} [DecidableEq κ] (knd : KeyKind prog w κ) (sh : List Bool) : HeapKind prog w (NK κ) where
  is := fun h ks a => IsNK knd h ks a ∧ ks.map side = sh
  hash := nkHash knd
  draws := nkDraws
  room := fun A => A.units + 1 < cLine
  inj := fun hx hy => hx.1.inj hy.1
  keeps := fun x ho hd hs => ⟨x.1.keeps ho hd hs, x.2⟩
  pyHash := fun hu hk h => hash_nk hu hk.1 h
  eqBool := fun hu hx hy h => eq_nk hu (hx.2.trans hy.2.symm) hx.1 hy.1 h
  quiet := fun hk h => quiet_nk hk.1 h
end GL

/-! Dicts whose keys are tuples of numbers and of tuples of numbers; the key objects are told. -/
namespace GL
open PySem PySem.Spec PyProof.Rows L2
abbrev NKy := NK Int
def itemH : Int ⊕ List Int → Int
  | .inl k => hashInt k
  | .inr l => reduceHash (Builtin.Tuple.tupleHashOf (l.map hashInt))
def nkH (ks : NKy) : Int := reduceHash (Builtin.Tuple.tupleHashOf (ks.map itemH))
theorem nkH_eq (P : Program) (w : World) (ks : NKy) : nkHash (intKind P w) ks = nkH ks := by
  have e : itemHash (intKind P w) = itemH := by
    funext x
    cases x <;> rfl
  unfold nkHash nkH
  rw [e]
abbrev NL := List (NKy × Addr × V)
abbrev NV := List (NKy × Addr × Value)
abbrev NR : NL → NV → Prop := Paired fun p q => p.1 = q.1 ∧ p.2.1 = q.2.1 ∧ RelV p.2.2 q.2.2
/-- the dict at d, by its entries -/
def ndW (d : Addr) (L : NL) (h : Heap) : Prop := L.length ≤ sizeLine ∧ (d == sysModules) = false ∧ (L.map (·.1)).Nodup ∧
  ∃ xs : NV, NR L xs ∧ ∃ o es ep, h.get? d = some o ∧ o.ExactDict ∧ o.data = .dict es ep ∧ es.toList = xs.map fun x => ⟨nkH x.1, .ref x.2.1, x.2.2⟩
abbrev ndH (d : Addr) (L : NL) : HO := .ext (ndW d L)
def valN (L : NL) (k : NKy) : Option V := (L.find? fun e => decide (e.1 = k)).map (·.2.2)
def putN (L : NL) (k : NKy) (a : Addr) (v : V) : NL := if (valN L k).isSome = true then L.map (fun e => if e.1 = k then (e.1, e.2.1, v) else e) else L ++ [(k, a, v)]
/-- the tuple at a is the key -/
def ItV (K : PySem.W.Frag) (H : Hp) : Int ⊕ List Int → V → Prop
  | .inl n, v => v = .int n
  | .inr l, v => ∃ b, v = .ref b ∧ SqT K H b (l.map .int)
def ItsV (K : PySem.W.Frag) (H : Hp) : NKy → List V → Prop
  | [], [] => True
  | k :: ks, v :: vs => ItV K H k v ∧ ItsV K H ks vs
  | _, _ => False
def KeyV (K : PySem.W.Frag) (H : Hp) (k : NKy) (a : Addr) : Prop := ∃ vs, SqT K H a vs ∧ ItsV K H k vs
def AllK (K : PySem.W.Frag) (H : Hp) (sh : List Bool) (L : NL) : Prop := ∀ e ∈ L, KeyV K H e.1 e.2.1 ∧ e.1.map side = sh
section
variable {X : Cx} {pins : List (Addr × Obj)} {σ : L2.St} {H : Hp} {s : Shared}
theorem ints_key {P : Program} {w : World} : ∀ {l : List Int} {its : List Value}, Vals (l.map V.int) its → ItemsAre (intKind P w) l its
  | [], [], _ => .nil
  | n :: l, v :: its, h => by
    cases h with
    | cons h1 h2 =>
      obtain ⟨t, rfl⟩ := h1
      exact .cons (by show Value.isInt n (.int n t) = true; simp [Value.isInt]) (ints_key h2)
theorem ItsV.at_ (I : Inv X pins σ H s) : ∀ {k : NKy} {vs : List V} {its : List Value}, ItsV X.K H k vs → Vals vs its → ItemsN (intKind X.prog X.w) s.heap k its
  | [], [], its, _, h => by cases h; exact .nil
  | .inl n :: ks, v :: vs, its, ⟨h1, h2⟩, h => by
    cases h with
    | cons r1 r2 =>
      rw [show v = .int n from h1] at r1
      obtain ⟨t, rfl⟩ := r1
      exact .cons (by show Value.isInt n (.int n t) = true; simp [Value.isInt]) (ItsV.at_ I h2 r2)
  | .inr l :: ks, v :: vs, its, ⟨h1, h2⟩, h => by
    cases h with
    | cons r1 r2 =>
      obtain ⟨b, rfl, hb⟩ := h1
      rw [show _ = Value.ref b from r1]
      obtain ⟨its', hv, hT, _⟩ := I.tuple hb
      obtain ⟨o, ho, hc, n, hd⟩ := hT
      exact .cons ⟨b, rfl, o, its'.toArray, n, ho, hc, hd, by simpa using ints_key hv⟩ (ItsV.at_ I h2 r2)
  | [], _ :: _, _, h, _ => h.elim
  | .inl _ :: _, [], _, h, _ => h.elim
  | .inr _ :: _, [], _, h, _ => h.elim
theorem KeyV.at_ (I : Inv X pins σ H s) {k : NKy} {a : Addr} (h : KeyV X.K H k a) : IsNK (intKind X.prog X.w) s.heap k a := by
  obtain ⟨vs, h1, h2⟩ := h
  obtain ⟨its, hv, hT, _⟩ := I.tuple h1
  obtain ⟨o, ho, hc, n, hd⟩ := hT
  exact ⟨o, its.toArray, n, ho, hc, hd, by simpa using h2.at_ I hv⟩
theorem NR.keys : ∀ {L : NL} {xs : NV}, NR L xs → L.map (·.1) = xs.map (·.1)
  | _, _, .nil => rfl
  | _, _, .cons h t => by rw [List.map_cons, List.map_cons, h.1, NR.keys t]
theorem NR.all {p : NKy → Addr → Prop} : ∀ {L : NL} {xs : NV}, NR L xs → (∀ e ∈ L, p e.1 e.2.1) → ∀ x ∈ xs, p x.1 x.2.1
  | _, _, .nil, _, x, hx => nomatch hx
  | _, _, .cons h t, q, x, hx => by
    rcases List.mem_cons.mp hx with e | hx
    · subst e
      rw [← h.1, ← h.2.1]
      exact q _ List.mem_cons_self
    · exact NR.all t (fun e he => q e (List.mem_cons_of_mem _ he)) x hx
theorem NR.val (k : NKy) : ∀ {L : NL} {xs : NV}, NR L xs → RelO (valN L k) ((atKey xs k).map (·.2))
  | _, _, .nil => True.intro
  | _, _, @Paired.cons _ _ _ p q L xs h t => by
    unfold valN atKey
    by_cases e : p.1 = k
    · rw [List.find?_cons, List.find?_cons, decide_eq_true e, decide_eq_true (by rw [← h.1]; exact e)]
      exact h.2.2
    · rw [List.find?_cons, List.find?_cons, decide_eq_false e, decide_eq_false (by rw [← h.1]; exact e)]
      exact NR.val k t
theorem nd_of (I : Inv X pins σ H s) {d : Addr} {sh : List Bool} {L : NL} (e : H d = some (ndH d L)) (ak : AllK X.K H sh L) : L.length ≤ sizeLine ∧ (d == sysModules) = false ∧ ∃ xs : NV, NR L xs ∧ s.heap.DictOfH (nkKind (intKind X.prog X.w) sh) d xs := by
  obtain ⟨⟨z, hd, hn, xs, rel, o, es, ep, ho, hx, hdt, hes⟩, _, _⟩ := (show ObjOk X.prog X.w H s.heap d (ndH d L) from I.hok d _ e)
  refine ⟨z, hd, xs, rel, o, es, ep, ho, hx, hdt, ?_, ?_, ?_⟩
  · rw [hes]
    refine List.map_congr_left fun x _ => ?_
    show _ = DictEntry.mk (nkHash (intKind X.prog X.w) x.1) _ _
    rw [nkH_eq]
  · exact NR.all (p := fun k a => (nkKind (intKind X.prog X.w) sh).is s.heap k a) rel fun e he => ⟨(ak e he).1.at_ I, (ak e he).2⟩
  · rw [← NR.keys rel]
    exact hn
theorem nkd_ok {P : Program} {w : World} {H' : Hp} {h : Heap} {d : Addr} {sh : List Bool} {L : NL} {xs : NV} (z : L.length ≤ sizeLine) (hd : (d == sysModules) = false) (rel : NR L xs) (dd : h.DictOfH (nkKind (intKind P w) sh) d xs) : ObjOk P w H' h d (ndH d L) := by
  obtain ⟨o, es, ep, ho, hx, hdt, hes, _, hn⟩ := dd
  have x : ndW d L h := ⟨z, hd, by rw [NR.keys rel]; exact hn, xs, rel, o, es, ep, ho, hx, hdt, by
    rw [hes]
    refine List.map_congr_left fun x _ => ?_
    show DictEntry.mk (nkHash (intKind P w) x.1) _ _ = _
    rw [nkH_eq]⟩
  refine ⟨x, ⟨o, ho⟩, fun h1 h2 ⟨z', hd', hn', xs', rel', o', es', ep', ho', r⟩ k => ⟨z', hd', hn', xs', rel', o', es', ep', k _ ho', r⟩⟩
theorem NR.put {k : NKy} {a : Addr} {v : V} {u : Value} (rv : RelV v u) {L : NL} {xs : NV} (r : NR L xs) : NR (putN L k a v) (storedH xs k a u) := by
  have e : (valN L k).isSome = (atKey xs k).isSome := by
    have := (r.val k).isSome_eq
    rw [Option.isSome_map] at this
    exact this
  unfold putN storedH
  rw [e]
  by_cases q : (atKey xs k).isSome = true
  · rw [if_pos q, if_pos q]
    clear e q
    induction r with
    | nil => exact .nil
    | @cons p q L xs h t ih =>
      refine .cons ?_ ih
      unfold putAt
      dsimp only
      by_cases c : p.1 = k
      · rw [if_pos c, if_pos (by rw [← h.1]; exact c)]
        exact ⟨h.1, h.2.1, rv⟩
      · rw [if_neg c, if_neg (by rw [← h.1]; exact c)]
        exact h
  · rw [if_neg q, if_neg q]
    exact Paired.snoc r ⟨rfl, rfl, rv⟩
theorem putN_len (L : NL) (k : NKy) (a : Addr) (v : V) : (putN L k a v).length ≤ L.length + 1 := by
  unfold putN
  split
  · rw [List.length_map]; omega
  · rw [List.length_append]; exact Nat.le_refl _
variable {A : Around} {E : Value → Shared → Prop} {d b : Addr} {sh : List Bool} {L : NL} {k : NKy} {v : V} {u r : Value}
/-- what is asked of a dict at a key -/
structure NAt (K : PySem.W.Frag) (H : Hp) (d : Addr) (L : NL) (b : Addr) (k : NKy) : Prop where
  e : H d = some (ndH d L)
  ak : AllK K H (k.map side) L
  kb : KeyV K H k b
theorem n_getItem {Q : Value → Shared → Prop} (hu : A.units + 2 < cLine) (I : Inv X pins σ H s) (n : NAt X.K H d L b k) (hv : valN L k = some v) (h : ∀ w' s', Inv X pins σ H s' → RelV v w' → Q w' s') : wpAny (model X.prog X.w) A (getItem (.ref d) (.ref b)) Q E s := by
  obtain ⟨z, hd, xs, rel, dd⟩ := nd_of I n.e n.ak
  obtain ⟨w', hw, rw'⟩ := RelO.some_of (v := v) (o := (atKey xs k).map (·.2)) (by rw [← hv]; exact rel.val k)
  obtain ⟨p, hp, hp2⟩ := Option.map_eq_some_iff.mp hw
  refine wpAny_getItem_heap (knd := nkKind (intKind X.prog X.w) (k.map side)) hu ⟨n.kb.at_ I, rfl⟩ dd hp ?_
  rw [hp2]
  exact h w' _ (I.tok _) rw'
theorem n_in {Q : Value → Shared → Prop} (hu : A.units + 2 < cLine) (I : Inv X pins σ H s) (n : NAt X.K H d L b k) (h : ∀ s', Inv X pins σ H s' → Q (.bool (valN L k).isSome) s') : wpAny (model X.prog X.w) A (compareOp .In (.ref b) (.ref d)) Q E s := by
  obtain ⟨z, hd, xs, rel, dd⟩ := nd_of I n.e n.ak
  refine wpAny_in_heap (knd := nkKind (intKind X.prog X.w) (k.map side)) hu ⟨n.kb.at_ I, rfl⟩ hd dd ?_
  have q := (rel.val k).isSome_eq
  rw [Option.isSome_map] at q
  rw [← q]
  exact h _ (I.tok _)
theorem n_notIn {Q : Value → Shared → Prop} (hu : A.units + 2 < cLine) (I : Inv X pins σ H s) (n : NAt X.K H d L b k) (h : ∀ s', Inv X pins σ H s' → Q (.bool (!(valN L k).isSome)) s') : wpAny (model X.prog X.w) A (compareOp .NotIn (.ref b) (.ref d)) Q E s := by
  obtain ⟨z, hd, xs, rel, dd⟩ := nd_of I n.e n.ak
  refine PyProof.Rows.wpAny_notIn_heap (knd := nkKind (intKind X.prog X.w) (k.map side)) hu ⟨n.kb.at_ I, rfl⟩ hd dd ?_
  have q := (rel.val k).isSome_eq
  rw [Option.isSome_map] at q
  rw [← q]
  exact h _ (I.tok _)
theorem n_setItem {Q : Unit → Shared → Prop} (hu : A.units + 2 < cLine) (I : Inv X pins σ H s) (n : NAt X.K H d L b k) (hl : L.length < sizeLine) (rv : RelV v r) (h : ∀ s', Inv X pins σ (upd H d (ndH d (putN L k b v))) s' → Q () s') :
    wpAny (model X.prog X.w) A (setItem (.ref d) (.ref b) r) Q E s := by
  obtain ⟨z, hd, xs, rel, dd⟩ := nd_of I n.e n.ak
  have hz : xs.length ≤ sizeLine := by rw [← Paired.length rel]; exact z
  have hl' : (putN L k b v).length ≤ sizeLine := Nat.le_trans (putN_len L k b v) hl
  refine wpAny_setItem_heap (knd := nkKind (intKind X.prog X.w) (k.map side)) (hsz := hz) hu ⟨n.kb.at_ I, rfl⟩ dd fun h' dd' hs => h _ ?_
  have he : ∃ q, h'.get? d = some q := let ⟨q, _, _, hq, _⟩ := dd'; ⟨q, hq⟩
  exact d_write I (by rw [n.e]; exact True.intro) hs he (nkd_ok hl' hd (rel.put rv) dd')
end
def tNNew : TE := fun _ H Q => ∀ p, H p = none → Q (.ref p) (upd H p (ndH p []))
def tNGet (K : PySem.W.Frag) (td ty : TE) : TE := fun σ H Q => td σ H fun x H1 => ty σ H1 fun y H2 => ∃ d b L k v, x = .ref d ∧ y = .ref b ∧ NAt K H2 d L b k ∧ valN L k = some v ∧ Q v H2
def tNIn (K : PySem.W.Frag) (ty td : TE) : TE := fun σ H Q => ty σ H fun y H1 => td σ H1 fun x H2 => ∃ d b L k, x = .ref d ∧ y = .ref b ∧ NAt K H2 d L b k ∧ Q (.bl (valN L k).isSome) H2
def tNNotIn (K : PySem.W.Frag) (ty td : TE) : TE := fun σ H Q => ty σ H fun y H1 => td σ H1 fun x H2 => ∃ d b L k, x = .ref d ∧ y = .ref b ∧ NAt K H2 d L b k ∧ Q (.bl (!(valN L k).isSome)) H2
def sNPut (K : PySem.W.Frag) (td ty tv : TE) : TS := fun D σ H => tv σ H fun v H1 => td σ H1 fun x H2 => ty σ H2 fun y H3 => ∃ d b L k, x = .ref d ∧ y = .ref b ∧ NAt K H3 d L b k ∧ L.length < sizeLine ∧ D.nx σ (upd H3 d (ndH d (putN L k b v)))
section
variable {X : Cx} {o i e value : Expr} {pos pos' tpos : Pos} {td ty tv : TE}
theorem nd_empty {P : Program} {w : World} {H : Hp} (h : Heap) (hb : sysModules < h.objs.size) : ObjOk P w H (h.push { cls := .type "dict", data := .dict #[] }) h.objs.size (ndH h.objs.size []) :=
  nkd_ok (sh := []) (xs := []) (Nat.zero_le _) (beq_eq_false_iff_ne.mpr (Ne.symm (Nat.ne_of_lt hb))) .nil (Heap.DictOfH.new h)
theorem pe_nnew : PE X (.Dict [] [] pos) tNNew := ⟨fun pins s σ H Q I h =>
  wpAny_Dict_empty ⟨.ref s.heap.objs.size, _, I.laid (a := s.heap.objs.size) (o := ndH s.heap.objs.size []) (t' := s.toks) (fun _ _ q => Heap.get?_push_of_some _ q) (Nat.le_refl _) (nd_empty s.heap I.big), rfl, h _ (I.hok.fresh (Nat.le_refl _))⟩⟩
theorem nd_type {pins : List (Addr × Obj)} {σ : L2.St} {H : Hp} {s : Shared} {d b : Addr} {L : NL} {k : NKy} (I : Inv X pins σ H s) (n : NAt X.K H d L b k) : s.TypeIs (.ref d) "dict" := by
  obtain ⟨_, _, _, _, dd⟩ := nd_of I n.e n.ak
  exact dd.typeIs
theorem pe_nget (hu : X.A.units + 2 < cLine) (ho : PE X o td) (hi : PE X i ty) (hs : NoSl i) : PE X (.Subscript o i pos) (tNGet X.K td ty) := by
  refine ⟨fun pins s σ H Q I h => ?_⟩
  refine subD_of PySem.F.slot_dict_getitem.lookup hs (thn (ho.run pins s σ H _ I h) fun u s1 ⟨x, H1, I1, rx, q1⟩ => thn (hi.run pins s1 σ H1 _ I1 q1) fun iv s2 ⟨y, H2, I2, ry, d, b, L, k, v, ex, ey, n, hv, q2⟩ => ?_)
  subst ex ey
  obtain rfl : u = Value.ref d := rx
  obtain rfl : iv = Value.ref b := ry
  exact ⟨nd_type I2 n, n_getItem hu I2 n hv fun w' s3 I3 rw' => ⟨v, H2, I3, rw', q2⟩⟩
theorem pc_nin (hu : X.A.units + 2 < cLine) (hi : PE X i ty) (ho : PE X o td) : PC X .In i o (tNIn X.K ty td) := by
  refine ⟨fun pins s σ H Q I h => ?_⟩
  refine thn (hi.run pins s σ H _ I h) fun iv s1 ⟨y, H1, I1, ry, q1⟩ => thn (ho.run pins s1 σ H1 _ I1 q1) fun u s2 ⟨x, H2, I2, rx, d, b, L, k, ex, ey, n, q2⟩ => ?_
  subst ex ey
  obtain rfl : u = Value.ref d := rx
  obtain rfl : iv = Value.ref b := ry
  exact n_in hu I2 n fun s3 I3 => ⟨.bl (valN L k).isSome, H2, I3, rfl, q2⟩
theorem pc_nnotin (hu : X.A.units + 2 < cLine) (hi : PE X i ty) (ho : PE X o td) : PC X .NotIn i o (tNNotIn X.K ty td) := by
  refine ⟨fun pins s σ H Q I h => ?_⟩
  refine thn (hi.run pins s σ H _ I h) fun iv s1 ⟨y, H1, I1, ry, q1⟩ => thn (ho.run pins s1 σ H1 _ I1 q1) fun u s2 ⟨x, H2, I2, rx, d, b, L, k, ex, ey, n, q2⟩ => ?_
  subst ex ey
  obtain rfl : u = Value.ref d := rx
  obtain rfl : iv = Value.ref b := ry
  exact n_notIn hu I2 n fun s3 I3 => ⟨.bl (!(valN L k).isSome), H2, I3, rfl, q2⟩
theorem ps_nput (hu : X.A.units + 2 < cLine) (ho : PE X o td) (hi : PE X i ty) (hv : PE X value tv) (hs : swapsWith value (some (.Subscript o i pos')) pos.line X.env = pure false) :
    PS X (.Assign [.Subscript o i pos'] value pos) (sNPut X.K td ty tv) := by
  refine ⟨fun pins s σ H D I h => ?_⟩
  refine wpAny_Assign_Subscript (thn (hv.run pins s σ H _ I h) fun r s1 ⟨v, H1, I1, rv, q1⟩ => thn (ho.run pins s1 σ H1 _ I1 q1) fun u s2 ⟨x, H2, I2, rx, q2⟩ => thn (hi.run pins s2 σ H2 _ I2 q2) fun iv s3 ⟨y, H3, I3, ry, d, b, L, k, ex, ey, n, hl, q3⟩ => ?_) hs
  subst ex ey
  obtain rfl : u = Value.ref d := rx
  obtain rfl : iv = Value.ref b := ry
  exact n_setItem hu I3 n hl rv fun s4 I4 => ⟨σ, _, I4, q3⟩
end
end GL

/-! Dicts whose keys are pairs, stands or states. -/
namespace GL
open PySem PySem.Spec PyProof.Rows L2
class NKey (α : Type) extends Py α where
  key : α → NKy
  inj : ∀ {x y : α}, key x = key y → x = y
  sh : List Bool
  shp : ∀ x : α, (key x).map side = sh
  at_ : ∀ {K : Fg} {S : Hp} {v : V} {x : α}, Py.rep K S v x → ∃ b, v = .ref b ∧ KeyV K S (key x) b
theorem KeyV.mono {K : Fg} {S S' : Hp} (e : Same S S') {k : NKy} {a : Addr} (h : KeyV K S k a) : KeyV K S' k a := by
  obtain ⟨vs, h1, h2⟩ := h
  refine ⟨vs, seqT e h1, ?_⟩
  clear h1
  revert vs
  induction k with
  | nil =>
    intro vs h2
    cases vs with
    | nil => exact True.intro
    | cons _ _ => exact h2.elim
  | cons k ks ih =>
    intro vs h2
    cases vs with
    | nil => cases k <;> exact h2.elim
    | cons v vs =>
      refine ⟨?_, ih vs h2.2⟩
      have h3 := h2.1
      cases k with
      | inl n => exact h3
      | inr l =>
        obtain ⟨b, e1, hb⟩ := h3
        exact ⟨b, e1, seqT e hb⟩
theorem tp_key {K : Fg} {S : Hp} {v : V} {x : Tp Int} (r : Py.rep K S v x) : ItV K S (.inr x.l) v := by
  obtain ⟨p, vs, rfl, hp, hr⟩ := r
  rw [hr.ints] at hp
  exact ⟨p, rfl, hp⟩
instance : NKey (Int × Int) where
  key x := [.inl x.1, .inl x.2]
  inj {x y} h := by
    simp only [List.cons.injEq, Sum.inl.injEq, and_true] at h
    exact Prod.ext h.1 h.2
  sh := [true, true]
  shp _ := rfl
  at_ r := by
    obtain ⟨p, a, b, rfl, hp, ra, rb⟩ := r
    exact ⟨p, rfl, _, hp, ra, rb, True.intro⟩
instance : NKey (Int × Tp Int) where
  key x := [.inl x.1, .inr x.2.l]
  inj {x y} h := by
    simp only [List.cons.injEq, Sum.inl.injEq, Sum.inr.injEq, and_true] at h
    obtain ⟨a, ⟨b⟩⟩ := x
    obtain ⟨c, ⟨d⟩⟩ := y
    obtain ⟨h1, h2⟩ := h
    dsimp only at h1 h2
    rw [h1, h2]
  sh := [true, false]
  shp _ := rfl
  at_ r := by
    obtain ⟨p, a, b, rfl, hp, ra, rb⟩ := r
    exact ⟨p, rfl, _, hp, ra, tp_key rb, True.intro⟩
instance : NKey (T4 Int Int (Tp Int) (Tp Int)) where
  key x := [.inl x.a, .inl x.b, .inr x.c.l, .inr x.d.l]
  inj {x y} h := by
    simp only [List.cons.injEq, Sum.inl.injEq, Sum.inr.injEq, and_true] at h
    obtain ⟨a, b, ⟨c⟩, ⟨d⟩⟩ := x
    obtain ⟨a', b', ⟨c'⟩, ⟨d'⟩⟩ := y
    obtain ⟨h1, h2, h3, h4⟩ := h
    dsimp only at h1 h2 h3 h4
    rw [h1, h2, h3, h4]
  sh := [true, true, false, false]
  shp _ := rfl
  at_ r := by
    obtain ⟨p, a, b, c, d, rfl, hp, ra, rb, rc, rd⟩ := r
    exact ⟨p, rfl, _, hp, ra, rb, tp_key rc, tp_key rd, True.intro⟩
/-- a dict whose keys are such -/
structure DN (α β : Type) where
  l : List (α × β)
namespace DN
variable {α β : Type} [DecidableEq α]
def get? (d : DN α β) (k : α) : Option β := (d.l.find? fun e => decide (e.1 = k)).map (·.2)
def put (d : DN α β) (k : α) (x : β) : DN α β := ⟨if (d.get? k).isSome = true then d.l.map (fun e => if e.1 = k then (e.1, x) else e) else d.l ++ [(k, x)]⟩
def emp : DN α β := ⟨[]⟩
theorem put_len (d : DN α β) (k : α) (x : β) : (d.put k x).l.length ≤ d.l.length + 1 := by
  unfold put
  dsimp only
  split
  · rw [List.length_map]; omega
  · rw [List.length_append]; exact Nat.le_refl _
end DN
section
variable {α β : Type} [NKey α] [Py β] [DecidableEq α] {K : Fg} {S S' H H' : Hp}
def RepN (K : Fg) (S : Hp) : NL → List (α × β) → Prop
  | [], [] => True
  | e :: L, x :: xs => (e.1 = NKey.key x.1 ∧ Py.rep K S (.ref e.2.1) x.1 ∧ Py.rep K S e.2.2 x.2) ∧ RepN K S L xs
  | _, _ => False
theorem RepN.mono (e : Same S S') : ∀ {L : NL} {xs : List (α × β)}, RepN K S L xs → RepN K S' L xs
  | [], [], _ => True.intro
  | _ :: _, _ :: _, h => ⟨⟨h.1.1, Py.mono e h.1.2.1, Py.mono e h.1.2.2⟩, RepN.mono e h.2⟩
  | [], _ :: _, h => h.elim
  | _ :: _, [], h => h.elim
theorem RepN.len : ∀ {L : NL} {xs : List (α × β)}, RepN K S L xs → L.length = xs.length
  | [], [], _ => rfl
  | _ :: L, _ :: xs, h => by rw [List.length_cons, List.length_cons, RepN.len h.2]
  | [], _ :: _, h => h.elim
  | _ :: _, [], h => h.elim
theorem key_dec (x y : α) : decide ((NKey.key x : NKy) = NKey.key y) = decide (x = y) := by
  by_cases e : x = y
  · rw [e]; simp
  · rw [decide_eq_false e, decide_eq_false fun q => e (NKey.inj q)]
theorem RepN.val (k : α) : ∀ {L : NL} {xs : List (α × β)}, RepN K S L xs → match (xs.find? fun e => decide (e.1 = k)).map (·.2) with
    | some y => ∃ v, valN L (NKey.key k) = some v ∧ Py.rep K S v y
    | none => valN L (NKey.key k) = none
  | [], [], _ => rfl
  | e :: L, x :: xs, h => by
    have ed : decide (e.1 = NKey.key k) = decide (x.1 = k) := by rw [h.1.1, key_dec]
    unfold valN
    rw [List.find?_cons, List.find?_cons, ed]
    by_cases c : x.1 = k
    · rw [decide_eq_true c]
      exact ⟨e.2.2, rfl, h.1.2.2⟩
    · rw [decide_eq_false c]
      exact RepN.val k h.2
  | [], _ :: _, h => h.elim
  | _ :: _, [], h => h.elim
theorem RepN.isSome {d : DN α β} {L : NL} (h : RepN K S L d.l) (k : α) : (valN L (NKey.key k)).isSome = (d.get? k).isSome := by
  have := h.val k
  unfold DN.get?
  revert this
  cases (d.l.find? fun e => decide (e.1 = k)).map (·.2) with
  | none => intro q; rw [show valN L (NKey.key k) = none from q]; rfl
  | some y => intro ⟨v, q, _⟩; rw [q]; rfl
theorem RepN.put {d : DN α β} {L : NL} (h : RepN K S L d.l) {k : α} {y : β} {a : Addr} {v : V} (ra : Py.rep K S (.ref a) k) (rv : Py.rep K S v y) : RepN K S (putN L (NKey.key k) a v) (d.put k y).l := by
  unfold putN DN.put
  rw [h.isSome k]
  dsimp only
  by_cases c : (d.get? k).isSome = true
  · rw [if_pos c, if_pos c]
    clear c
    revert h
    generalize d.l = xs
    revert xs
    induction L with
    | nil =>
      intro xs h
      cases xs with
      | nil => exact True.intro
      | cons _ _ => exact h.elim
    | cons e L ih =>
      intro xs h
      cases xs with
      | nil => exact h.elim
      | cons x xs =>
        refine ⟨?_, ih xs h.2⟩
        by_cases q : x.1 = k
        · have q' : e.1 = NKey.key k := by rw [h.1.1, q]
          dsimp only
          rw [if_pos q, if_pos q']
          exact ⟨h.1.1, h.1.2.1, rv⟩
        · have q' : ¬ e.1 = NKey.key k := by rw [h.1.1]; exact fun z => q (NKey.inj z)
          dsimp only
          rw [if_neg q, if_neg q']
          exact h.1
  · rw [if_neg c, if_neg c]
    clear c
    revert h
    generalize d.l = xs
    revert xs
    induction L with
    | nil =>
      intro xs h
      cases xs with
      | nil => exact ⟨⟨rfl, ra, rv⟩, True.intro⟩
      | cons _ _ => exact h.elim
    | cons e L ih =>
      intro xs h
      cases xs with
      | nil => exact h.elim
      | cons x xs => exact ⟨h.1, ih xs h.2⟩
theorem RepN.all (e : Same S H) : ∀ {L : NL} {xs : List (α × β)}, RepN K S L xs → AllK K H (NKey.sh α) L
  | [], [], _ => fun _ h => nomatch h
  | e1 :: L, x :: xs, h => fun q hq => by
    rcases List.mem_cons.mp hq with rfl | hq
    · obtain ⟨b, eb, hk⟩ := NKey.at_ h.1.2.1
      cases eb
      exact ⟨by rw [h.1.1]; exact hk.mono e, by rw [h.1.1]; exact NKey.shp _⟩
    · exact RepN.all e h.2 q hq
  | [], _ :: _, h => h.elim
  | _ :: _, [], h => h.elim
instance : Own (DN α β) := ⟨fun K S H v ps x => ∃ p L, v = .ref p ∧ ps = [p] ∧ H p = some (ndH p L) ∧ RepN K S L x.l, fun {K S S' H H' v ps x} e a ⟨p, L, h1, h2, h3, h4⟩ =>
  ⟨p, L, h1, h2, by rw [a p (by rw [h2]; exact List.mem_singleton.mpr rfl)]; exact h3, h4.mono e⟩⟩
end
section
variable {α β : Type} [NKey α] [Py β] [DecidableEq α] {K : Fg} {B S0 S1 S S' D : Hp} {σ : L2.St} {H H' : Hp} {F : Nat → List Addr} {G G' G1 G2 G3 : List Sl} {ta tb te : TE} {i j : Nat} {t u : TS} {E : Ends} {d d' : DN α β} {k : α} {y : β}
theorem own_nd (kn : Kn K B S0 S σ H F G) (hi : G[i]? = some (.ow d)) : ∃ p L, σ[i]? = some (some (.ref p)) ∧ F i = [p] ∧ H p = some (ndH p L) ∧ RepN K S L d.l := by
  obtain ⟨v, h1, p, L, rfl, h2, h3, h4⟩ := kn.ow hi
  exact ⟨p, L, h1, h2, h3, h4⟩
/-- a key at hand, asked of the dict -/
theorem nat_at {p : Addr} {L : NL} {v : V} (e : Same S H) (hp : H p = some (ndH p L)) (hr : RepN (α := α) (β := β) K S L d.l) (rk : Py.rep K S v k) : ∃ b, v = .ref b ∧ NAt K H p L b (NKey.key k) := by
  obtain ⟨b, eb, hk⟩ := NKey.at_ rk
  exact ⟨b, eb, hp, by rw [NKey.shp]; exact hr.all e, hk.mono e⟩
theorem q_nnew (α β : Type) [NKey α] [Py β] [DecidableEq α] (hi : G[i]?.isSome = true) (q : At K B S0 (u E) (G.set i (.ow (DN.emp : DN α β)))) : At K B S0 (tSeq (tAsg tNNew (gName i)) u E) G := fun S σ H F kn => by
  intro p hp
  have k2 := kn.raw (o := ndH p []) hp
  exact q S _ _ _ (k2.setOwn (v := .ref p) ⟨p, [], rfl, rfl, upd_same, True.intro⟩ hi (kn.free hp).1 (kn.free hp).2.1 ⟨_, upd_same⟩ (kn.free hp).2.2)
theorem ev_nin (hk : EvX K ta G k G1) (hi : G1[i]? = some (.ow d)) : EvX K (tNIn K ta (tVar i)) G (d.get? k).isSome G1 := fun B S0 S σ H F kn Q q =>
  hk B S0 S σ H F kn _ fun v S1 H1 e1 k1 r1 => by
    obtain ⟨p, L, h1, h2, h3, h4⟩ := own_nd k1 hi
    obtain ⟨b, rfl, n⟩ := nat_at (α := α) (β := β) k1.sub h3 h4 r1
    exact ⟨.ref p, h1, p, b, L, NKey.key k, rfl, rfl, n, q _ S1 H1 e1 k1 (by rw [h4.isSome]; rfl)⟩
theorem ev_nnotin (hk : EvX K ta G k G1) (hi : G1[i]? = some (.ow d)) : EvX K (tNNotIn K ta (tVar i)) G (!(d.get? k).isSome) G1 := fun B S0 S σ H F kn Q q =>
  hk B S0 S σ H F kn _ fun v S1 H1 e1 k1 r1 => by
    obtain ⟨p, L, h1, h2, h3, h4⟩ := own_nd k1 hi
    obtain ⟨b, rfl, n⟩ := nat_at (α := α) (β := β) k1.sub h3 h4 r1
    exact ⟨.ref p, h1, p, b, L, NKey.key k, rfl, rfl, n, q _ S1 H1 e1 k1 (by rw [h4.isSome]; rfl)⟩
def nix [Inhabited β] (d : DN α β) (k : α) : β := (d.get? k).getD default
theorem ev_nget [Inhabited β] (hi0 : G[i]? = some (.ow d')) (hk : EvX K tb G k G1) (hi : G1[i]? = some (.ow d)) (hs : (d.get? k).isSome = true) : EvX K (tNGet K (tVar i) tb) G (nix d k) G1 := fun B S0 S σ H F kn Q q => by
  obtain ⟨p0, L0, g1, _⟩ := own_nd kn hi0
  refine ⟨.ref p0, g1, hk B S0 S σ H F kn _ fun v S1 H1 e1 k1 r1 => ?_⟩
  obtain ⟨p, L, h1, h2, h3, h4⟩ := own_nd k1 hi
  rw [g1] at h1
  cases h1
  obtain ⟨b, rfl, n⟩ := nat_at (α := α) (β := β) k1.sub h3 h4 r1
  have hv : match d.get? k with
    | some y => ∃ v, valN L (NKey.key k) = some v ∧ Py.rep K S1 v y
    | none => valN L (NKey.key k) = none := h4.val k
  cases e : d.get? k with
  | none => rw [e] at hs; cases hs
  | some z =>
    rw [e] at hv
    obtain ⟨w, hw, rw'⟩ := hv
    exact ⟨p0, b, L, NKey.key k, w, rfl, rfl, n, hw, q w S1 H1 e1 k1 (by unfold nix; rw [e]; exact rw')⟩
theorem q_nput (h : EvX K te G y G1) (hl1 : G1[i]? = some (.ow d')) (hk : EvX K tb G1 k G2) (hl : G2[i]? = some (.ow d)) (hz : d.l.length < sizeLine) (q : At K B S0 (u E) (G2.set i (.ow (d.put k y)))) :
    At K B S0 (tSeq (sNPut K (tVar i) tb te) u E) G := fun S σ H F kn =>
  h B S0 S σ H F kn _ fun v S1 H1 e1 k1 r1 => by
    obtain ⟨p0, L0, g1, _⟩ := own_nd k1 hl1
    refine ⟨.ref p0, g1, hk B S0 S1 σ H1 F k1 _ fun w S2 H2 e2 k2 r2 => ?_⟩
    obtain ⟨p, L, h1, h2, h3, h4⟩ := own_nd k2 hl
    rw [g1] at h1
    cases h1
    obtain ⟨b, rfl, n⟩ := nat_at (α := α) (β := β) k2.sub h3 h4 r2
    refine ⟨p0, b, L, NKey.key k, rfl, rfl, n, by rw [h4.len]; exact hz, q S2 σ _ (upF F i [p0]) (k2.moved (v0 := .ref p0) (ps' := [p0]) hl g1 (Same.refl _) (fun a o e => ?_) (fun a o ha e => ?_) (fun _ _ _ _ => rfl) (fun a ha => ?_) ⟨p0, _, rfl, rfl, upd_same, h4.put r2 (Py.mono e2 r1)⟩)⟩
    · have ne : a ≠ p0 := fun z => by
        have := (k2.off i p0 (by rw [h2]; exact List.mem_singleton.mpr rfl)).1
        rw [z, this] at e
        cases e
      rw [upd_ne ne]
      exact k2.sub a o e
    · have ne : a ≠ p0 := fun z => ha (by rw [h2, z]; exact List.mem_singleton.mpr rfl)
      rw [upd_ne ne]
      exact e
    · have ea := List.mem_singleton.mp ha
      subst ea
      exact ⟨(k2.off i a (by rw [h2]; exact List.mem_singleton.mpr rfl)).1, ⟨_, upd_same⟩, .inl (by rw [h2]; exact List.mem_singleton.mpr rfl)⟩
end
theorem hu2_of {k : Nat} {A : Around} (hr : Room k A) : A.units + 2 < cLine := by
  have := hr.un
  omega
/-- a module's number -/
theorem pe_globI {X : Cx} {x : Str} {n : Int} {pos : Pos} (hg : Gl X x) (hm : ∃ t, X.mg x = some (.int n t)) (hd : (x == ("__debug__" : Str)) = false := by decide) : PE X (.Name x pos) (tC (.int n)) := by
  obtain ⟨t, h⟩ := hm
  exact pe_glob (v := .int n) hg h ⟨t, rfl⟩ hd
instance {α β : Type} [Py α] [Py β] [ToD α] [ToD β] : ToD (Sum α β) := ⟨fun x => match x with | .inl y => ToD.dat y | .inr y => ToD.dat y, fun {K S v x} h => by
  cases x with
  | inl y => exact ToD.of (x := y) h
  | inr y => exact ToD.of (x := y) h⟩
section
variable {K : Fg} {B S0 : Hp} {G G1 : List Sl} {tt : TT} {b : Bool} {t w u : TS} {E : Ends}
theorem q_ifT (h : EvT K tt G b G1) (hb : b = true) (h1 : At K B S0 (t { E with nx := u E }) G1) : At K B S0 (tSeq (tIfS tt t w) u E) G := q_if h (fun _ => h1) fun e => by rw [hb] at e; cases e
end
/-! what is walked, a word of it being known -/
def ItGW {α τ : Type} [Py α] (K : Fg) (wi : TI) (G : List Sl) (R : τ → Prop) (xs : τ → List α) (st : τ → List Sl) : Prop :=
  ∀ B S0 S σ H F, Kn K B S0 S σ H F G → ∀ Q : It → Hp → Prop, (∀ w, R w → ∀ J S' H', Same S S' → Kn K B S0 S' σ H' F (st w) → Wk K J S' (xs w) → Q J H') → wi σ H Q
section
variable {α τ ρ : Type} [Py α] {K : Fg} {B S0 : Hp} {G : List Sl} {wi : TI} {R : τ → Prop} {xs : τ → List α} {st : τ → List Sl} {g : TG} {tb u : TS} {E : Ends} {te : TE}
theorem it_listW (h : EvW K te G R xs st) : ItGW K (iList K te) G R xs st := fun B S0 S σ H F k Q q =>
  h B S0 S σ H F k _ fun w hw v S1 H1 e1 k1 r1 => by
    obtain ⟨p, vs, rfl, hp, hr⟩ := r1
    exact ⟨p, rfl, ⟨vs, SqL.of (k1.sub _ _ hp)⟩, q w hw _ S1 H1 e1 k1 (wk_list hp hr)⟩
theorem q_forW (hi : ItGW K wi G R xs st) (k : ∀ w, R w → ∃ I : List α → List α → List Sl → Prop, I [] (xs w) (st w) ∧
    (∀ pre x post Gi, pre ++ x :: post = xs w → I pre (x :: post) Gi → ∀ S1, Reb B S0 S1 → ∃ G2 ts, TgG K g x Gi G2 ts ∧ At K B S1 (tb { E with nx := Mid K B S1 (I (pre ++ [x]) post), ct := Mid K B S1 (I (pre ++ [x]) post), bk := u E }) G2) ∧
    ∀ Gi, I (xs w) [] Gi → At K B S0 (u E) Gi) : At K B S0 (tSeq (tFor wi g tb) u E) G := fun S σ H F kn =>
  hi B S0 S σ H F kn _ fun w hw J S1 H1 e1 k1 wk => by
    obtain ⟨I, h0, hs, hd⟩ := k w hw
    have rb : Reb B S0 S1 := k1.rebOf
    refine ⟨fun i m σ H => ∃ pre post S F Gi, pre ++ post = xs w ∧ pre.length = i ∧ post.length = m ∧ Kn K B S1 S σ H F Gi ∧ I pre post Gi, ⟨(xs w).length, [], xs w, S1, F, st w, rfl, rfl, rfl, k1.reb, h0⟩, ?_⟩
    rintro i m σ' H' ⟨pre, post, S2, F2, Gi, ex, rfl, rfl, k2, p⟩
    cases post with
    | nil =>
      refine .inl ⟨(wk S2 H' pre.length k2.s0 k2.sub).2 (by rw [← ex, List.append_nil]; exact Nat.le_refl _), ?_⟩
      rw [List.append_nil] at ex
      rw [ex] at p
      exact hd Gi p S2 σ' H' F2 (k2.unreb rb)
    | cons x post =>
      have hx : (xs w)[pre.length]? = some x := by
        rw [← ex, List.getElem?_append_right (Nat.le_refl _), Nat.sub_self]
        rfl
      obtain ⟨go, yl⟩ := (wk S2 H' pre.length k2.s0 k2.sub).1 x hx
      refine .inr ⟨go, Mid K B S1 (I (pre ++ [x]) post), ?_, ?_⟩
      · rintro σ3 H3 ⟨S3, F3, G3, k3, p3⟩
        exact ⟨post.length, by rw [List.length_cons]; omega, pre ++ [x], post, S3, F3, G3, by rw [← ex, List.append_assoc]; rfl, by rw [List.length_append]; rfl, rfl, k3, p3⟩
      · intro v H3 y
        obtain ⟨S3, gr, r⟩ := yl v H3 y
        obtain ⟨G2, ts, tg, bd⟩ := hs pre x post Gi ex p S1 rb
        exact tg.2 B S1 S3 σ' H3 F2 v (k2.grow gr) r _ fun σ4 k4 _ _ => bd S3 σ4 H3 F2 k4
theorem qg_invW (γ : ρ → List Sl) (I : List α → ρ → Prop) (hi : ItGW K wi G R xs st) (k : ∀ w, R w → ∃ s0 : ρ, Le (γ s0) (st w) ∧ I [] s0 ∧
    (∀ pre x post s, pre ++ x :: post = xs w → I pre s → ∀ S1, Reb B S0 S1 → ∃ G2 ts, TgG K g x (γ s) G2 ts ∧ At K B S1 (tb { E with nx := Mid K B S1 (fun G' => ∃ s', G' = γ s' ∧ I (pre ++ [x]) s'), ct := Mid K B S1 (fun G' => ∃ s', G' = γ s' ∧ I (pre ++ [x]) s'), bk := u E }) G2) ∧
    ∀ s, I (xs w) s → At K B S0 (u E) (γ s)) : At K B S0 (tSeq (tFor wi g tb) u E) G := by
  have hi' : ItGW K wi G (fun w : { p : τ × ρ // R p.1 ∧ Le (γ p.2) (st p.1) ∧ I [] p.2 ∧ (∀ pre x post s, pre ++ x :: post = xs p.1 → I pre s → ∀ S1, Reb B S0 S1 → ∃ G2 ts, TgG K g x (γ s) G2 ts ∧ At K B S1 (tb { E with nx := Mid K B S1 (fun G' => ∃ s', G' = γ s' ∧ I (pre ++ [x]) s'), ct := Mid K B S1 (fun G' => ∃ s', G' = γ s' ∧ I (pre ++ [x]) s'), bk := u E }) G2) ∧ ∀ s, I (xs p.1) s → At K B S0 (u E) (γ s) } => True) (fun w => xs w.1.1) (fun w => γ w.1.2) := fun B S0 S σ H F kn Q q =>
    hi B S0 S σ H F kn Q fun w hw J S' H' e k' wk => by
      obtain ⟨s0, h0, hI, hs, hd⟩ := k w hw
      exact q ⟨(w, s0), hw, h0, hI, hs, hd⟩ True.intro J S' H' e (k'.le h0) wk
  refine q_forW hi' fun ⟨⟨w, s0⟩, hw, h0, hI, hs, hd⟩ _ => ⟨fun pre post Gi => ∃ s, Gi = γ s ∧ I pre s, ⟨s0, rfl, hI⟩, fun pre x post Gi ex ⟨s, e, p⟩ S1 rb => ?_, fun Gi ⟨s, e, p⟩ => by rw [e]; exact hd s p⟩
  subst e
  exact hs pre x post s ex p S1 rb
end
end GL

/-! What is a stand: how deep data is, of what a law builds. -/
namespace GL
open PySem PySem.Spec PyProof.Rows L2
theorem log50 {m : Int} (h : m < 1073741824 ∨ m = 100000000000000000000000000000000000000000000000000) (h0 : 0 < m) : m.natAbs.log2 < 9000 := by
  rcases h with h | h
  · have q : m.natAbs < 2 ^ 30 := by show m.natAbs < 1073741824; omega
    exact Nat.lt_trans (PySem.Flt.log2_lt_of (by decide : 0 < 30) q) (by decide)
  · rw [h]; decide
section
variable {α β γ : Type} [Py α] [Py β] [Py γ] [ToD α] [ToD β] [ToD γ] {k : Nat}
theorem dl_int {i : Int} : DLe k (ToD.dat i) := .int
theorem dl_bl {i : Bool} : DLe k (ToD.dat i) := .bl
theorem dl_str {i : Str} : DLe k (ToD.dat i) := .str
theorem dl_non {i : Unit} : DLe k (ToD.dat i) := .non
theorem dl_dat {d : Dat} (h : DLe k d) : DLe k (ToD.dat d) := h
theorem dl_map {xs : List α} (h : ∀ x ∈ xs, DLe k (ToD.dat x)) : ∀ d ∈ xs.map ToD.dat, DLe k d := fun d hd => by
  obtain ⟨x, hx, e⟩ := List.mem_map.mp hd
  rw [← e]
  exact h x hx
theorem dl_tp {xs : List α} (hl : xs.length ≤ 1000000) (h : ∀ x ∈ xs, DLe k (ToD.dat x)) : DLe (k + 1) (ToD.dat (Tp.mk xs)) := .tup (by rw [List.length_map]; exact hl) (dl_map h)
theorem dl_tp' {xs : Tp α} (hl : xs.l.length ≤ 1000000) (h : ∀ x ∈ xs.l, DLe k (ToD.dat x)) : DLe (k + 1) (ToD.dat xs) := .tup (by rw [List.length_map]; exact hl) (dl_map h)
theorem dl_list {xs : List α} (hl : xs.length ≤ 1000000) (h : ∀ x ∈ xs, DLe k (ToD.dat x)) : DLe (k + 1) (ToD.dat xs) := .lst (by rw [List.length_map]; exact hl) (dl_map h)
theorem dl_pair {x : α} {y : β} (h1 : DLe k (ToD.dat x)) (h2 : DLe k (ToD.dat y)) : DLe (k + 1) (ToD.dat (x, y)) := .tup (by simp) fun d hd => by
  simp only [List.mem_cons, List.mem_nil_iff, or_false] at hd
  rcases hd with rfl | rfl
  · exact h1
  · exact h2
theorem dl_pair' {x : α × β} (h1 : DLe k (ToD.dat x.1)) (h2 : DLe k (ToD.dat x.2)) : DLe (k + 1) (ToD.dat x) := dl_pair h1 h2
theorem dl_t3 {x : α} {y : β} {z : γ} (h1 : DLe k (ToD.dat x)) (h2 : DLe k (ToD.dat y)) (h3 : DLe k (ToD.dat z)) : DLe (k + 1) (ToD.dat (T3.mk x y z)) := .tup (by simp) fun d hd => by
  simp only [List.mem_cons, List.mem_nil_iff, or_false] at hd
  rcases hd with rfl | rfl | rfl
  · exact h1
  · exact h2
  · exact h3
theorem dl_t3' {x : T3 α β γ} (h1 : DLe k (ToD.dat x.a)) (h2 : DLe k (ToD.dat x.b)) (h3 : DLe k (ToD.dat x.c)) : DLe (k + 1) (ToD.dat x) := dl_t3 h1 h2 h3
theorem dl_h2 {x : α} {y : β} (h1 : DLe k (ToD.dat x)) (h2 : DLe k (ToD.dat y)) : DLe (k + 1) (ToD.dat (H2.mk x y)) := .lst (by simp) fun d hd => by
  simp only [List.mem_cons, List.mem_nil_iff, or_false] at hd
  rcases hd with rfl | rfl
  · exact h1
  · exact h2
end
theorem dl_row {k : Nat} {r : WRow} : DLe (k + 1) (ToD.dat r) := .tup (by cases r <;> simp [WRow.nums]) fun d hd => by
  rcases List.mem_cons.mp hd with e | e
  · rw [e]; exact .str
  · obtain ⟨x, _, q⟩ := List.mem_map.mp e
    rw [← q]
    exact .int
theorem dl_nil {α : Type} [Py α] [ToD α] {k : Nat} : ∀ x ∈ ([] : List α), DLe k (ToD.dat x) := fun _ h => nomatch h
theorem dl_one {k : Nat} {α : Type} [Py α] [ToD α] {x : α} (h : DLe k (ToD.dat x)) : ∀ y ∈ [x], DLe k (ToD.dat y) := fun y hy => by rw [List.mem_singleton.mp hy]; exact h
theorem dl_cons {k : Nat} {α : Type} [Py α] [ToD α] {x : α} {xs : List α} (h : DLe k (ToD.dat x)) (h2 : ∀ y ∈ xs, DLe k (ToD.dat y)) : ∀ y ∈ x :: xs, DLe k (ToD.dat y) := fun y hy => by
  rcases List.mem_cons.mp hy with e | e
  · rw [e]; exact h
  · exact h2 y e
theorem dl_app {k : Nat} {α : Type} [Py α] [ToD α] {xs ys : List α} (h : ∀ y ∈ xs, DLe k (ToD.dat y)) (h2 : ∀ y ∈ ys, DLe k (ToD.dat y)) : ∀ y ∈ xs ++ ys, DLe k (ToD.dat y) := fun y hy => (List.mem_append.mp hy).elim (h y) (h2 y)
theorem dl_ints {k : Nat} {xs : List Int} : ∀ y ∈ xs, DLe k (ToD.dat y) := fun _ _ => .int
theorem dl_mints {k : Nat} {xs : List Int} : ∀ y ∈ xs.map Dat.int, DLe k (ToD.dat y) := fun y hy => by
  obtain ⟨x, _, e⟩ := List.mem_map.mp hy
  rw [← e]
  exact .int
theorem dl_rows {k : Nat} {xs : List WRow} : ∀ y ∈ xs, DLe (k + 1) (ToD.dat y) := fun _ _ => dl_row
theorem dl_ix {k : Nat} {xs : List Dat} {i : Int} (h : ∀ y ∈ xs, DLe k (ToD.dat y)) (hi : 0 ≤ i ∧ i < xs.length) : DLe k (ToD.dat (ix xs i)) := ix_all h hi
theorem dl_le {d : Dat} : ∀ {k j : Nat}, DLe k d → k ≤ j → DLe j d := fun {k j} h hj => by
  induction hj with
  | refl => exact h
  | step _ ih => exact dle_up ih
theorem cutL_len {α : Type} {xs : List α} {lo hi : Option Int} : (cutL xs lo hi).length ≤ xs.length := by
  unfold cutL
  rw [List.length_take, List.length_drop]
  omega
theorem dl_cut {k : Nat} {α : Type} [Py α] [ToD α] {xs : List α} {lo hi : Option Int} (h : ∀ y ∈ xs, DLe k (ToD.dat y)) : ∀ y ∈ cutL xs lo hi, DLe k (ToD.dat y) := fun y hy => by
  unfold cutL at hy
  exact h y (List.mem_of_mem_drop (List.mem_of_mem_take hy))
theorem notin_all {α : Type} (f : α → Bool) : ∀ l : List α, (!decide (false ∈ l.map f)) = l.all f
  | [] => by simp
  | x :: l => by
    have ih := notin_all f l
    rw [List.map_cons, List.all_cons, ← ih]
    cases h : f x <;> simp
theorem stand_yes {g : Prog} {s : Stand} (sk : StandOk g s) : standD g.a g.b g.c.l.length (ToD.dat s) = true := by
  obtain ⟨a0, a1, ln, nums⟩ := sk
  unfold standD
  show (true && (decide (2 = 2) && (btwD (Dat.int s.1) 0 _ && (true && (decide (((s.2.l.map ToD.dat).length : Int) = g.a) && (s.2.l.map ToD.dat).all fun x => btwD x 0 (g.b - 1)))))) = true
  rw [List.length_map, decide_eq_true ln, List.all_map]
  have h1 : btwD (Dat.int s.1) 0 (g.c.l.length : Int) = true := by
    unfold btwD
    show (true && (decide (0 ≤ s.1) && decide (s.1 ≤ (g.c.l.length : Int)))) = true
    rw [decide_eq_true a0, decide_eq_true a1]; rfl
  rw [h1]
  have h2 : s.2.l.all ((fun x => btwD x 0 (g.b - 1)) ∘ ToD.dat) = true := List.all_eq_true.mpr fun x hx => by
    have := nums x hx
    show btwD (Dat.int x) 0 (g.b - 1) = true
    unfold btwD
    show (true && (decide (0 ≤ x) && decide (x ≤ g.b - 1))) = true
    rw [decide_eq_true this.1, decide_eq_true (by omega)]; rfl
  rw [h2]
  rfl
end GL

/-! Texts; dicts with text keys: displays, and the module's table of rows' parts; == (). -/
namespace L2
open PySem PySem.Spec PyProof.Rows
/-- x == y, y the empty tuple -/
def rEqTN (K : PySem.W.Frag) : R2 := fun x y H Q => ∃ p q xs, x = .ref p ∧ y = .ref q ∧ SqT K H p xs ∧ SqT K H q [] ∧ Q (.bl xs.isEmpty) H
theorem op_eqTN {X : Cx} (hu : X.A.units < cLine) : OpR X (compareOp .Eq) (rEqTN X.K) := by
  intro pins s σ H x y v u Q I rx ry h
  obtain ⟨p, r, xs, rfl, rfl, h1, h2, q⟩ := h
  cases rx
  cases ry
  obtain ⟨its, rv, pl, hz⟩ := I.tuple h1
  obtain ⟨its2, rv2, pl2, hz2⟩ := I.tuple h2
  have e2 : its2 = [] := by cases rv2; rfl
  subst e2
  show wpAny (model X.prog X.w) X.A (richCompare .Eq (.ref p) (.ref r)) (EP X pins σ Q) X.xe s
  have e : (Value.bool ((List.range (min its.toArray.size ([] : List Value).toArray.size)).all (fun _ => true) && its.toArray.size == ([] : List Value).toArray.size)) = .bool xs.isEmpty := by
    have hl := rv.length
    cases xs with
    | nil => cases rv; rfl
    | cons a xs => cases rv with | cons r1 rv => simp
  refine PySem.SeqAt.rcIn_tuples (e := fun _ => true) pl pl2 hu (fun j h1 h2 => absurd h2 (by simp)) ?_
  rw [e]
  exact ⟨.bl xs.isEmpty, H, I, rfl, q⟩
/-! the module's dict with text keys, wherever it lies -/
def rInK (K : PySem.W.Frag) (w : World) (b : Bool) : R2 := fun x y H Q => ∃ d es n z r, KDict K w d es n ∧ x = .str z ∧ y = .ref d ∧ PySem.W.nsIn K d z = some r ∧ Q (.bl (b != r.isSome)) H
theorem op_inK {X : Cx} : OpR X (compareOp .In) (rInK X.K X.w false) := by
  intro pins s σ H x y v u Q I rx ry h
  obtain ⟨d, es, n, z, r, D, e1, e2, e3, q⟩ := h
  exact op_in_kd D pins s σ H x y v u Q I rx ry ⟨z, r, e1, e2, e3, by cases r <;> exact q⟩
theorem op_notInK {X : Cx} : OpR X (compareOp .NotIn) (rInK X.K X.w true) := by
  intro pins s σ H x y v u Q I rx ry h
  obtain ⟨d, es, n, z, r, D, e1, e2, e3, q⟩ := h
  exact op_notIn_kd D pins s σ H x y v u Q I rx ry ⟨z, r, e1, e2, e3, by cases r <;> exact q⟩
end L2
namespace GL
open PySem PySem.Spec PyProof.Rows L2
namespace Dat
def toS : Dat → Str
  | .str s => s
  | _ => Str.empty
end Dat
/-! ### dicts with text keys, of whole numbers -/
structure TD where
  l : List (Str × Int)
def TD.kv (d : TD) : List (Key × V) := d.l.map fun kv => (Sum.inr kv.1, V.int kv.2)
instance : Py TD := ⟨fun K S v d => ∃ p, v = .ref p ∧ S p = some (.dK d.kv), fun e ⟨p, h1, h2⟩ => ⟨p, h1, e _ _ h2⟩⟩
def TD.get? (d : TD) (s : Str) : Option Int := (d.l.find? fun kv => decide (kv.1 = s)).map (·.2)
theorem TD.val (s : Str) : ∀ l : List (Str × Int), valV (l.map fun kv => ((Sum.inr kv.1 : Key), V.int kv.2)) (Sum.inr s) = ((l.find? fun kv => decide (kv.1 = s)).map (·.2)).map V.int
  | [] => rfl
  | kv :: l => by
    rw [List.map_cons, List.find?_cons]
    by_cases e : kv.1 = s
    · rw [decide_eq_true e, valV_pos (by show (Sum.inr kv.1 : Key) = Sum.inr s; rw [e])]
      rfl
    · rw [decide_eq_false e, valV_neg (by intro q; exact e (Sum.inr.inj q))]
      exact TD.val s l
section
variable {K : Fg} {B S0 S1 S S' D : Hp} {σ : L2.St} {H H' : Hp} {F : Nat → List Addr} {G G' G1 G2 G3 : List Sl} {ta tb tc te : TE} {i j : Nat} {t u w : TS} {E : Ends}
theorem ev_tdget {d : TD} {s : Str} {n : Int} (hd : EvX K ta G d G1) (hk : EvX K tb G1 s G2) (h : d.get? s = some n) : EvX K (tDGet ta tb) G n G2 := fun B S0 S σ H F k Q q =>
  hd B S0 S σ H F k _ fun v S1 H1 e1 k1 r1 => hk B S0 S1 σ H1 F k1 _ fun u S2 H2 e2 k2 r2 => by
    obtain ⟨p, rfl, hp⟩ := Py.mono e2 r1
    rw [show u = .str s from r2]
    have g := DGet.k (k := Sum.inr s) (k2.sub _ _ hp)
    rw [show valV d.kv (Sum.inr s) = (d.get? s).map V.int from TD.val s d.l, h] at g
    exact ⟨p, _, rfl, g, q _ S2 H2 (e1.trans e2) k2 rfl⟩
theorem ev_td3 {a b c : Str} {x y z : Int} (hx : EvX K ta G x G) (hy : EvX K tb G y G) (hz : EvX K tc G z G) (n1 : a ≠ b) (n2 : a ≠ c) (n3 : b ≠ c) : EvX K (tDisp [(tC (.str a), ta), (tC (.str b), tb), (tC (.str c), tc)]) G (TD.mk [(a, x), (b, y), (c, z)]) G := fun B S0 S σ H F k Q q => fun p hp => by
  obtain ⟨f1, f2, f3⟩ := k.free hp
  have k1 := (k.raw (o := .dK []) hp).pin upd_same f1 f3
  refine hx _ S0 S σ _ F k1 _ fun v S1 H1 e1 k2 r1 => hy _ S0 S1 σ H1 F k2 _ fun u S2 H2 e2 k3 r2 => hz _ S0 S2 σ H2 F k3 _ fun w S3 H3 e3 k4 r3 => ?_
  have hk := k4.keep p _ upd_same
  have hs : S3 p = none := (k4.clean p _ upd_same).trans (k.s0.free f1)
  have k5 := (k4.unpin f2).poke (o := .dK (TD.mk [(a, x), (b, y), (c, z)]).kv) hs f2 f3
  refine ⟨hk, [(Sum.inr a, .int x), (Sum.inr b, .int y), (Sum.inr c, .int z)], by rw [show v = .int x from r1, show u = .int y from r2, show w = .int z from r3]; rfl, by show 3 ≤ 15; decide, ?_⟩
  have em : mergeK [] [((Sum.inr a : Key), V.int x), (Sum.inr b, .int y), (Sum.inr c, .int z)] = (TD.mk [(a, x), (b, y), (c, z)]).kv := by
    simp [mergeK, putK, TD.kv, n1, n2, n3]
  rw [em]
  exact q _ _ _ (((e1.trans e2).trans e3).trans (same_new hs)) (k5.settle upd_same hs f2 f3) ⟨p, rfl, upd_same⟩
/-! ### the module's table -/
def partsK : List (Str × List Str) := [("set", ["sheet", "number"]), ("add", ["sheet", "sheet"]), ("jump", ["sheet", "row"]), ("say", ["sheet"]), ("take", ["sheet"]), ("end", [])]
def partsM (s : Str) : Option (List Str) := (partsK.find? fun kv => decide (kv.1 = s)).map (·.2)
def KParts (K : Fg) (w : World) (mg : Str → Option Value) (x : Str) : Prop := ∃ d es n, mg x = some (.ref d) ∧ KDict K w d es n ∧ (∀ s, partsM s = none → PySem.W.nsIn K d s = some none) ∧ ∀ s l, partsM s = some l → ∃ u, PySem.W.nsIn K d s = some (some (.ref u)) ∧ KTup K u (l.map V.str)
variable {w : World} {mg : Str → Option Value} {x : Str}
theorem ev_ninParts {s : Str} (ha : EvX K ta G s G1) (hP : KParts K w mg x) : EvX K (tOp (rInK K w true) ta (tGlob mg x)) G (!(partsM s).isSome) G1 := fun B S0 S σ H F k Q q =>
  ha B S0 S σ H F k _ fun v S1 H1 e1 k1 r1 => by
    obtain ⟨d, es, n, hm, D, h1, h2⟩ := hP
    refine ⟨d, hm, d, es, n, s, ?_⟩
    cases e : partsM s with
    | none => exact ⟨none, D, r1, rfl, h1 s e, q _ S1 H1 e1 k1 (by rw [e]; rfl)⟩
    | some l =>
      obtain ⟨u, g1, g2⟩ := h2 s l e
      exact ⟨some (.ref u), D, r1, rfl, g1, q _ S1 H1 e1 k1 (by rw [e]; rfl)⟩
theorem repL_strs {S : Hp} : ∀ l : List Str, RepL K S (l.map V.str) l
  | [] => True.intro
  | _ :: l => ⟨rfl, repL_strs l⟩
theorem ev_partsIx {s : Str} {l : List Str} (hP : KParts K w mg x) (hb : EvX K tb G s G1) (h : partsM s = some l) : EvX K (tOp (rIxD K w) (tGlob mg x) tb) G (Tp.mk l) G1 := fun B S0 S σ H F k Q q => by
  obtain ⟨d, es, n, hm, D, h1, h2⟩ := hP
  obtain ⟨u, g1, g2⟩ := h2 s l h
  refine ⟨d, hm, hb B S0 S σ H F k _ fun v S1 H1 e1 k1 r1 => ?_⟩
  exact ⟨d, s, .ref u, rfl, r1, ⟨es, n, .ref u, D.at_, D.lit, g1, rfl⟩, q _ S1 H1 e1 k1 ⟨u, _, rfl, .inr g2.at_, repL_strs l⟩⟩
theorem seq_f {a b : Str} (h : ¬ a = b) : (a == b) = false := by
  cases q : a == b with
  | false => rfl
  | true => exact absurd (eq_of_beq q) h
theorem kparts_mk {d : Addr} {n : Nat} {h1 h2 h3 h4 h5 h6 : Int} {t1 t2 t3 t4 t5 t6 : Tok} {u1 u2 u3 u4 u5 u6 : Addr} (hm : mg x = some (.ref d))
    (hl : K.lookup d = some ⟨.type "dict", none, .dict #[⟨h1, .str "set" t1, .ref u1⟩, ⟨h2, .str "add" t2, .ref u2⟩, ⟨h3, .str "jump" t3, .ref u3⟩, ⟨h4, .str "say" t4, .ref u4⟩, ⟨h5, .str "take" t5, .ref u5⟩, ⟨h6, .str "end" t6, .ref u6⟩] n, #[]⟩)
    (hk : PySem.W.KeysLit w.params [⟨h1, .str "set" t1, .ref u1⟩, ⟨h2, .str "add" t2, .ref u2⟩, ⟨h3, .str "jump" t3, .ref u3⟩, ⟨h4, .str "say" t4, .ref u4⟩, ⟨h5, .str "take" t5, .ref u5⟩, ⟨h6, .str "end" t6, .ref u6⟩]) (lo : (d == sysModules) = false)
    (g1 : KTup K u1 [.str "sheet", .str "number"]) (g2 : KTup K u2 [.str "sheet", .str "sheet"]) (g3 : KTup K u3 [.str "sheet", .str "row"]) (g4 : KTup K u4 [.str "sheet"]) (g5 : KTup K u5 [.str "sheet"]) (g6 : KTup K u6 []) : KParts K w mg x := by
  have ns : ∀ s, PySem.W.nsIn K d s = some (match partsM s with | none => none | some _ => if ("set" : Str) = s then some (.ref u1) else if ("add" : Str) = s then some (.ref u2) else if ("jump" : Str) = s then some (.ref u3) else if ("say" : Str) = s then some (.ref u4) else if ("take" : Str) = s then some (.ref u5) else some (.ref u6)) := by
    intro s
    unfold PySem.W.nsIn
    rw [hl]
    dsimp only
    unfold partsM partsK
    simp only [List.find?_cons, Value.isStr, List.find?_nil]
    by_cases e1 : ("set" : Str) = s
    · subst e1; simp
    · have b1 := seq_f e1
      have d1 := decide_eq_false e1
      by_cases e2 : ("add" : Str) = s
      · subst e2; simp only [b1, d1]; simp only [beq_self_eq_true, decide_true, Option.map_some]; rw [if_neg e1]; simp
      · have b2 := seq_f e2
        have d2 := decide_eq_false e2
        by_cases e3 : ("jump" : Str) = s
        · subst e3; simp only [b1, b2, d1, d2]; simp only [beq_self_eq_true, decide_true, Option.map_some]; rw [if_neg e1, if_neg e2]; simp
        · have b3 := seq_f e3
          have d3 := decide_eq_false e3
          by_cases e4 : ("say" : Str) = s
          · subst e4; simp only [b1, b2, b3, d1, d2, d3]; simp only [beq_self_eq_true, decide_true, Option.map_some]; rw [if_neg e1, if_neg e2, if_neg e3]; simp
          · have b4 := seq_f e4
            have d4 := decide_eq_false e4
            by_cases e5 : ("take" : Str) = s
            · subst e5; simp only [b1, b2, b3, b4, d1, d2, d3, d4]; simp only [beq_self_eq_true, decide_true, Option.map_some]; rw [if_neg e1, if_neg e2, if_neg e3, if_neg e4]; simp
            · have b5 := seq_f e5
              have d5 := decide_eq_false e5
              by_cases e6 : ("end" : Str) = s
              · subst e6; simp only [b1, b2, b3, b4, b5, d1, d2, d3, d4, d5]; simp only [beq_self_eq_true, decide_true, Option.map_some]; rw [if_neg e1, if_neg e2, if_neg e3, if_neg e4, if_neg e5]; (try simp)
              · have b6 := seq_f e6
                have d6 := decide_eq_false e6
                simp only [b1, b2, b3, b4, b5, b6, d1, d2, d3, d4, d5, d6]
                rfl
  refine ⟨d, _, n, hm, ⟨hl, hk, lo⟩, fun s hs => by rw [ns s, hs], fun s l hs => ?_⟩
  rw [ns s, hs]
  dsimp only
  unfold partsM partsK at hs
  simp only [List.find?_cons, List.find?_nil] at hs
  by_cases e1 : ("set" : Str) = s
  · rw [if_pos e1]; simp [e1] at hs; rw [← hs]; exact ⟨_, rfl, g1⟩
  · rw [if_neg e1]
    by_cases e2 : ("add" : Str) = s
    · rw [if_pos e2]; simp [e1, e2] at hs; rw [← hs]; exact ⟨_, rfl, g2⟩
    · rw [if_neg e2]
      by_cases e3 : ("jump" : Str) = s
      · rw [if_pos e3]; simp [e1, e2, e3] at hs; rw [← hs]; exact ⟨_, rfl, g3⟩
      · rw [if_neg e3]
        by_cases e4 : ("say" : Str) = s
        · rw [if_pos e4]; simp [e1, e2, e3, e4] at hs; rw [← hs]; exact ⟨_, rfl, g4⟩
        · rw [if_neg e4]
          by_cases e5 : ("take" : Str) = s
          · rw [if_pos e5]; simp [e1, e2, e3, e4, e5] at hs; rw [← hs]; exact ⟨_, rfl, g5⟩
          · rw [if_neg e5]
            by_cases e6 : ("end" : Str) = s
            · simp [e1, e2, e3, e4, e5, e6] at hs; rw [hs]; exact ⟨_, rfl, g6⟩
            · simp [e1, e2, e3, e4, e5, e6] at hs
/-! ### data and texts -/
theorem EvX.asS {d : Dat} (h : EvX K te G d G1) (hd : d.isS = true) : EvX K te G d.toS G1 := by
  cases d with
  | str i => exact h.unS
  | _ => exact absurd hd Bool.false_ne_true
theorem ev_eqTN {xs : Tp Dat} (ha : EvX K ta G xs G1) : EvX K (tOp (rEqTN K) ta (tTup tNil)) G (decide (xs.l.length = 0)) G1 := fun B S0 S σ H F k Q q =>
  ha B S0 S σ H F k _ fun v S1 H1 e1 k1 r1 => ⟨by show 0 ≤ sizeLine; decide, fun p hp => by
    obtain ⟨a, vs, rfl, h1, h2⟩ := r1
    have e2 := same_new (o := .tup []) hp
    refine ⟨a, p, vs, rfl, rfl, seqT e2 (seqT k1.sub h1), SqT.of upd_same, q _ _ _ (e1.trans (same_new (k1.free hp).1)) (k1.new hp) ?_⟩
    show V.bl vs.isEmpty = V.bl _
    have := h2.len
    cases vs with
    | nil => rw [decide_eq_true (by simpa using this.symm)]; rfl
    | cons a vs => rw [decide_eq_false (by rw [← this]; simp)]; rfl⟩
def rAddS : R2 := fun x y H Q => ∃ i j, x = .str i ∧ y = .str j ∧ i.length + j.length ≤ sizeLine ∧ Q (.str (i ++ j)) H
theorem op_addS {X : Cx} : OpR X (binaryOp .Add) rAddS := op_add_str
theorem ev_addS {a b : Str} (ha : EvX K ta G a G1) (hb : EvX K tb G1 b G2) (h : a.length + b.length ≤ sizeLine) : EvX K (tOp rAddS ta tb) G (a ++ b) G2 := fun B S0 S σ H F k Q q =>
  ha B S0 S σ H F k _ fun v S1 H1 e1 k1 r1 => hb B S0 S1 σ H1 F k1 _ fun u S2 H2 e2 k2 r2 => id (α := ∃ i j, v = V.str i ∧ u = V.str j ∧ i.length + j.length ≤ sizeLine ∧ Q (.str (i ++ j)) H2) ⟨a, b, r1, r2, h, q _ S2 H2 (e1.trans e2) k2 rfl⟩
def rStrI : List V → Hp → VK → Prop := fun xs H Q => ∃ i, xs = [.int i] ∧ i.natAbs.log2 < 1920 ∧ Q (.str (toString i)) H
theorem call_strI {X : Cx} : CallR X (.type "str") rStrI := call_str_int
theorem ev_strI {n : Int} (ha : EvX K ta G n G1) (h : n.natAbs.log2 < 1920) : EvX K (tCB rStrI (tCons ta tNil)) G (Str.ofString (toString n)) G1 := fun B S0 S σ H F k Q q =>
  ha B S0 S σ H F k _ fun v S1 H1 e1 k1 r1 => ⟨n, by rw [show v = .int n from r1], h, q _ S1 H1 e1 k1 rfl⟩
theorem ev_slS {a : Str} {tl th : TO} {lo hi : Option Int} (h : EvX K ta G a G) (hl : EvO K tl G lo) (hh : EvO K th G hi) (hz : a.length ≤ sizeLine) : EvX K (tSl C8.rSlX ta tl th) G (Txt.slice a lo hi) G := fun B S0 S σ H F k Q q =>
  h B S0 S σ H F k _ fun v S1 H1 e1 k1 r1 => hl B S0 S1 σ H1 F k1 _ fun S2 H2 e2 k2 => hh B S0 S2 σ H2 F k2 _ fun S3 H3 e3 k3 => id (α := ∃ z, v = V.str z ∧ z.length ≤ sizeLine ∧ Q (.str (Txt.slice z lo hi)) H3) ⟨a, r1, hz, q _ S3 H3 ((e1.trans e2).trans e3) k3 rfl⟩
def rUpS : V → List V → Hp → VK → Prop := fun x xs H Q => ∃ a, x = .str a ∧ xs = [] ∧ a.length ≤ 5592405 ∧ Q (.str (Txt.upper a)) H
theorem ev_upS {a : Str} (h : EvX K ta G a G1) (hz : a.length ≤ 5592405) : EvX K (tM0 rUpS ta) G (Txt.upper a) G1 := fun B S0 S σ H F k Q q =>
  h B S0 S σ H F k _ fun v S1 H1 e1 k1 r1 => ⟨⟨a, r1⟩, a, r1, rfl, hz, q _ S1 H1 e1 k1 rfl⟩
end
end GL
namespace GL
open PySem PySem.Spec PyProof.Rows L2
section
variable {K : Fg} {G G1 : List Sl} {ta tb : TE} {w : World} {mg : Str → Option Value} {x : Str}
theorem ev_partsIxG {s : Str} (hP : KParts K w mg x) (hb : EvX K tb G s G1) (h : (partsM s).isSome = true) : EvX K (tOp (rIxD K w) (tGlob mg x) tb) G (Tp.mk ((partsM s).getD [])) G1 := by
  obtain ⟨l, hl⟩ := Option.isSome_iff_exists.mp h
  rw [hl]
  exact ev_partsIx hP hb hl
theorem ev_ninTs {x : Str} {xs : Tp Str} (ha : EvX K ta G x G) (hb : EvX K tb G xs G) : EvX K (tOp (rIn K true) ta tb) G (!decide (x ∈ xs.l)) G := fun B S0 S σ H F k Q q =>
  ha B S0 S σ H F k _ fun v S1 H1 e1 k1 r1 => hb B S0 S1 σ H1 F k1 _ fun w S2 H2 e2 k2 r2 => by
    obtain ⟨p, vs, rfl, hp, hr⟩ := r2
    rw [hr.strs] at hp
    rw [show v = .str x from r1]
    exact ⟨p, _, rfl, .inr (seqT k2.sub hp), rfl, flat_strs _, q _ S2 H2 (e1.trans e2) k2 (by rw [inV_strs]; rfl)⟩
end
end GL

/-! zip of a list and a tuple. -/
namespace RZm
open PySem
section
variable {prog : Program} {w : World} {A : Around} {E : Value → Shared → Prop} {s : Shared}
/-- an iterator that has come to its end, wherever it stands -/
theorem drawsL_end (hq : A.handled = none) (j l : Addr) (hne : l ≠ j) (xs : Array Value) (k : Nat) (hx : xs[k]? = none) : Draws prog w A j [j, l] k (fun _ _ => False) (fun m h => m = k ∧ h.IsListIter j l k ∧ h.IsList l xs) where
  live := fun _ _ q => let ⟨o, ho, _⟩ := q.2.1; ⟨o, ho⟩
  frame := fun _ _ _ q hk => ⟨q.1, q.2.1.at fun o e => hk j (by simp) o e, q.2.2.at fun o e => hk l (by simp) o e⟩
  item := fun m _ _ _ hm q _ => absurd hm (by rw [q.1]; exact Nat.lt_irrefl _)
  done := fun _ _ _ q hE => wpAny_nextOf_list_end hq q.2.1 q.2.2 hx hE
theorem drawsT_end (hq : A.handled = none) (j l : Addr) (hne : l ≠ j) (xs : Array Value) (k : Nat) (hx : xs[k]? = none) : Draws prog w A j [j, l] k (fun _ _ => False) (fun m h => m = k ∧ h.IsTupleIter j l k ∧ h.IsTuple l xs) where
  live := fun _ _ q => let ⟨o, ho, _⟩ := q.2.1; ⟨o, ho⟩
  frame := fun _ _ _ q hk => ⟨q.1, q.2.1.at fun o e => hk j (by simp) o e, q.2.2.at fun o e => hk l (by simp) o e⟩
  item := fun m _ _ _ hm q _ => absurd hm (by rw [q.1]; exact Nat.lt_irrefl _)
  done := fun _ _ _ q hE => wpAny_nextOf_tuple_end hq q.2.1 q.2.2 hx hE
theorem sep_of {z p q i j a b : Addr} (D : ZipApart z p q i j a b) : ZipSep2 z p q i j [i, a] [j, b] where
  TIz := D.TIz
  TOz := D.TOz
  TITO := D.TITO
  TIi1 := D.TIi1
  mem1 := List.mem_cons_self
  zf1 := by simp only [List.mem_cons, List.mem_nil_iff, or_false, not_or]; exact ⟨D.i1z.symm, D.l1z.symm⟩
  Tf1 := by simp only [List.mem_cons, List.mem_nil_iff, or_false, not_or]; exact ⟨D.TOi1, D.l1TO.symm⟩
  TIi2 := D.TIi2
  mem2 := List.mem_cons_self
  zf2 := by simp only [List.mem_cons, List.mem_nil_iff, or_false, not_or]; exact ⟨D.i2z.symm, D.l2z.symm⟩
  Tf2 := by simp only [List.mem_cons, List.mem_nil_iff, or_false, not_or]; exact ⟨D.TOi2, D.l2TO.symm⟩
  sep1_2 := by simp only [List.mem_cons, List.mem_nil_iff, or_false, not_or]; exact ⟨D.i12, D.l2i1.symm⟩
  sep2_1 := by simp only [List.mem_cons, List.mem_nil_iff, or_false, not_or]; exact ⟨D.i12.symm, D.l1i2.symm⟩
abbrev mH1 (h : Heap) (a : Addr) : Heap := h.push { cls := .type "list_iterator", data := .fields #[.ref a, .int 0 0] }
abbrev mH2 (h : Heap) (a b : Addr) : Heap := (mH1 h a).push { cls := .type "tuple_iterator", data := .fields #[.ref b, .int 0 0] }
abbrev mH3 (h : Heap) (a b : Addr) : Heap := (mH2 h a b).push { cls := .type "tuple", data := .seq #[.ref h.objs.size, .ref (mH1 h a).objs.size] }
abbrev mH4 (h : Heap) (a b : Addr) : Heap := (mH3 h a b).push { cls := .type "tuple", data := .seq #[.none, .none] }
abbrev mH5 (h : Heap) (a b : Addr) : Heap := (mH4 h a b).push { cls := .type "zip", data := .fields #[.none, .bool false, .bool false, .ref (mH2 h a b).objs.size, .ref (mH3 h a b).objs.size] }
theorem meets_new (a b : Addr) (xs ys : Array Value) :
    Meets (Builtin.«zip.__new__» ⟨[.type "zip", .ref a, .ref b], []⟩) (fun _ R s => s.heap.IsList a xs ∧ s.heap.IsTuple b ys ∧ R (.ok (.ret (.ref (mH4 s.heap a b).objs.size))) { s with heap := mH5 s.heap a b }) :=
  .of_wp fun prog w A R s h => by
    obtain ⟨hp, g, d, tk, os⟩ := s; obtain ⟨q1, q2, h⟩ := h
    have hs := sub_zip
    have g1 : Heap.IsList (Shared.heap ⟨hp, g, d, tk, os⟩) a xs := q1
    have g2 : Heap.IsTuple (Shared.heap ⟨hp.push { cls := .type "list_iterator", data := .fields #[.ref a, .int 0 0] }, g, d, tk, os⟩) b ys := Heap.IsTuple.push q2 _
    wp_walk using wpAny_pyIter_list g1, wpAny_pyIter_tuple g2
    exact ⟨_, rfl, h⟩
theorem call_zipM {a b : Addr} {xs ys : Array Value} {Q : Value → Shared → Prop} (ha : s.heap.IsList a xs) (hb : s.heap.IsTuple b ys)
    (h : ∀ h', IsZip h' (s.heap.objs.size + 4) (s.heap.objs.size + 2) (s.heap.objs.size + 3) .none → IsPair h' (s.heap.objs.size + 2) (.ref s.heap.objs.size) (.ref (s.heap.objs.size + 1)) → IsPair h' (s.heap.objs.size + 3) .none .none →
      h'.IsListIter s.heap.objs.size a 0 → h'.IsTupleIter (s.heap.objs.size + 1) b 0 → (∀ c o, s.heap.get? c = some o → h'.get? c = some o) → Q (.ref (s.heap.objs.size + 4)) { s with heap := h' }) :
    wpAny (model prog w) A (call (.type "zip") [.ref a, .ref b]) Q E s := by
  refine callType_new F.called_zip (by decide) (F.typeCall_zip_2 _ _) (F.newCall_zip_2 _ _) (fun obj => F.args_object_init_3 obj _ _) F.entry_zip_new (meets_new a b xs ys) ⟨ha, hb, ?_⟩
  have e1 : (mH1 s.heap a).objs.size = s.heap.objs.size + 1 := Heap.size_push ..
  have e2 : (mH2 s.heap a b).objs.size = s.heap.objs.size + 2 := by rw [Heap.size_push, e1]
  have e3 : (mH3 s.heap a b).objs.size = s.heap.objs.size + 3 := by rw [Heap.size_push, e2]
  have e4 : (mH4 s.heap a b).objs.size = s.heap.objs.size + 4 := by rw [Heap.size_push, e3]
  have up : ∀ {h : Heap} {o : Obj} {c : Addr} {u : Obj}, h.get? c = some u → (h.push o).get? c = some u := fun e => Heap.get?_push_of_some _ e
  have f5 : (mH5 s.heap a b).get? (mH4 s.heap a b).objs.size = some _ := Heap.get?_push_size _ rfl
  have f4 : (mH5 s.heap a b).get? (mH3 s.heap a b).objs.size = some _ := up (Heap.get?_push_size _ rfl)
  have f3 : (mH5 s.heap a b).get? (mH2 s.heap a b).objs.size = some _ := up (up (Heap.get?_push_size _ rfl))
  have f2 : (mH5 s.heap a b).get? (mH1 s.heap a).objs.size = some _ := up (up (up (Heap.get?_push_size _ rfl)))
  have f1 : (mH5 s.heap a b).get? s.heap.objs.size = some _ := up (up (up (up (Heap.get?_push_size _ rfl))))
  show _ ∧ _
  rw [e2, e3, e4] at f5
  rw [e1, e2] at f3
  rw [e3] at f4
  rw [e1] at f2
  rw [e4]
  exact ⟨⟨_, f5, rfl⟩, h _ f5 f3 f4 ⟨_, f1, rfl, rfl⟩ ⟨_, f2, rfl, rfl⟩ fun c o q => up (up (up (up (up q))))⟩
end
end RZm
namespace L2
open PySem PySem.Spec PyProof.Rows
/-- a list at a, a tuple at b, as they stand at each turn; the items in new pairs -/
def ItLT (K : PySem.W.Frag) (a b : Addr) : It :=
  ⟨fun i H => ∃ (us vs : List V) (x y : V), SqL K H a us ∧ SqT K H b vs ∧ us[i]? = some x ∧ vs[i]? = some y,
    fun i H v H' => ∃ N x y, v = .ref N ∧ H N = none ∧ H' = upd H N (.tup [x, y]) ∧ (∀ us, SqL K H a us → us[i]? = some x) ∧ ∀ vs, SqT K H b vs → vs[i]? = some y,
    fun i H => ∃ us vs : List V, SqL K H a us ∧ SqT K H b vs ∧ (us.length ≤ i ∨ vs.length ≤ i)⟩
theorem turn_zipM {P : Program} {w : World} {K : PySem.W.Frag} {es : List Expr} {n : Nat} {tp : Pos} {a b z p q i j : Addr} (D : ZipApart z p q i j a b) :
    Turn P w K (.Tuple es n tp) (ItLT K a b) [z, p, q, i, j] z (fun k h => IsZip h z p q .none ∧ IsPair h p (.ref i) (.ref j) ∧ (∃ x y, IsPair h q x y) ∧ h.IsListIter i a k ∧ h.IsTupleIter j b k) where
  mem := by simp
  obj := fun k h st c hc => by
    obtain ⟨t1, t2, ⟨_, _, t3⟩, ⟨o1, e1, _, d1⟩, ⟨o2, e2, _, d2⟩⟩ := st
    simp only [List.mem_cons, List.mem_nil_iff, or_false] at hc
    rcases hc with g | g | g | g | g
    · rw [g]; exact ⟨_, t1, fun v r => nomatch r⟩
    · rw [g]; exact ⟨_, t2, fun v r => nomatch r⟩
    · rw [g]; exact ⟨_, t3, fun v r => nomatch r⟩
    · rw [g]; exact ⟨o1, e1, fun v r => by rw [d1] at r; cases r⟩
    · rw [g]; exact ⟨o2, e2, fun v r => by rw [d2] at r; cases r⟩
  keep := fun k h h' st kp => by
    obtain ⟨t1, t2, ⟨x, y, t3⟩, t4, t5⟩ := st
    exact ⟨kp z (by simp) _ t1, kp p (by simp) _ t2, ⟨x, y, kp q (by simp) _ t3⟩, t4.at fun o r => kp i (by simp) o r, t5.at fun o r => kp j (by simp) o r⟩
  item := by
    intro X hP hw hK hc k pins s σ H E I hf st hg
    subst hP hw hK
    obtain ⟨t1, t2, ⟨_, _, t3⟩, t4, t5⟩ := st
    obtain ⟨us, vs, x, y, g1, g2, g3, g4⟩ := hg
    obtain ⟨its, r1, p1, _⟩ := I.list g1
    obtain ⟨its2, r2, p2, _⟩ := I.tuple g2
    obtain ⟨u, hu, ru⟩ := r1.get g3
    obtain ⟨u2, hu2, ru2⟩ := r2.get g4
    have zl : z < s.heap.objs.size := Heap.lt_size t1
    have hd : (X.A.in1).handled = none := I.ok.hd hc
    refine wpAny_pyNext_zipD2_item (RZm.sep_of D) (Draws.list hd i a D.l1i1 its.toArray) (Draws.tuple hd j b D.l2i2 its2.toArray) t1 t2 t3 ⟨t4, p1.isList⟩ ⟨t5, p2⟩ (i := k) ?_ ?_ fun x1 x2 h' tk y1 y2 z1 z2 s1 s2 z3 z4 hk => ?_
    · have := (List.getElem?_eq_some_iff.mp hu).1; simpa using this
    · have := (List.getElem?_eq_some_iff.mp hu2).1; simpa using this
    have ex1 : x1 = u := by
      have h9 : its.toArray[k]? = some x1 := y1
      rw [List.getElem?_toArray, hu] at h9
      exact (Option.some.inj h9).symm
    have ex2 : x2 = u2 := by
      have h9 : its2.toArray[k]? = some x2 := y2
      rw [List.getElem?_toArray, hu2] at h9
      exact (Option.some.inj h9).symm
    subst ex1 ex2
    refine ⟨_, rfl, wpAny_letOwnedTupleGo_zip (s := { s with heap := h', toks := tk }) z1 fun h2 z5 sb => ?_⟩
    have hT : h2.get? s.heap.objs.size = some { cls := .type "tuple", data := .seq #[x1, x2] } := (sb.2 _ (Nat.ne_of_gt zl)).trans z3
    have nw : ObjOk X.prog X.w (upd H s.heap.objs.size (.tup [x, y])) h2 s.heap.objs.size (.tup [x, y]) := ⟨by show 2 ≤ sizeLine; decide, [x1, x2], .cons ru (.cons ru2 .nil), ⟨_, hT, rfl, _, rfl⟩⟩
    have I1 : Inv X pins σ (upd H s.heap.objs.size (.tup [x, y])) { s with heap := h2, toks := tk } :=
      I.turnedNew (t' := tk) (ch := [z, p, q, i, j]) (fun c o hb r => (sb.2 c (fun e => hb (by simp [e]))).trans (hk c o (fun e => hb (by simp [e])) (fun e => hb (by simp [e])) (fun e => hb (by simp [e])) (fun e => hb (by simp [e])) r)) hf (Nat.le_refl _) nw
    refine ⟨.ref s.heap.objs.size, _, I1, rfl, ⟨_, x, y, rfl, I.hok.fresh (Nat.le_refl _), rfl, fun l hl => by rw [I.list_inj hl g1]; exact g3, fun l hl => by rw [I.tuple_inj hl g2]; exact g4⟩, ⟨z5, ?_, ⟨x1, x2, ?_⟩, ?_, ?_⟩, fun c hcm => ?_⟩
    · exact (sb.2 _ D.TIz).trans (hk _ _ D.TIz D.TITO D.TIi1 D.TIi2 t2)
    · exact (sb.2 _ D.TOz).trans z2
    · exact s1.1.at fun o r => (sb.2 _ D.i1z).trans r
    · exact s2.1.at fun o r => (sb.2 _ D.i2z).trans r
    · have lt : c < s.heap.objs.size := by
        simp only [List.mem_cons, List.mem_nil_iff, or_false] at hcm
        rcases hcm with g | g | g | g | g
        · rw [g]; exact zl
        · rw [g]; exact Heap.lt_size t2
        · rw [g]; exact Heap.lt_size t3
        · rw [g]; obtain ⟨_, e1, _⟩ := t4; exact Heap.lt_size e1
        · rw [g]; obtain ⟨_, e1, _⟩ := t5; exact Heap.lt_size e1
      rw [upd_ne (Nat.ne_of_lt lt)]
      exact (hf c hcm).1
  done := by
    intro X hP hw hK hc k pins s σ H E I hf st hg
    subst hP hw hK
    obtain ⟨t1, t2, ⟨_, _, t3⟩, t4, t5⟩ := st
    obtain ⟨us, vs, g1, g2, g3⟩ := hg
    obtain ⟨its, r1, p1, _⟩ := I.list g1
    obtain ⟨its2, r2, p2, _⟩ := I.tuple g2
    have l1 := r1.length
    have l2 := r2.length
    have hd : (X.A.in1).handled = none := I.ok.hd hc
    have fin : ∀ (h' : Heap) (tk : Nat), (∀ c o, c ≠ z → c ≠ q → c ≠ i → c ≠ j → s.heap.get? c = some o → h'.get? c = some o) → (none : Option Value) = none ∧ Inv X pins σ H { s with heap := h', toks := tk } := fun h' tk hk => ⟨rfl, I.turnedL (t' := tk) (ch := [z, p, q, i, j]) (fun c o hb r =>
      hk c o (fun e => hb (by simp [e])) (fun e => hb (by simp [e])) (fun e => hb (by simp [e])) (fun e => hb (by simp [e])) r) hf⟩
    by_cases c1 : its.length ≤ k
    · have n1 : its.toArray[k]? = none := by rw [List.getElem?_toArray]; exact List.getElem?_eq_none c1
      by_cases c2 : its2.length ≤ k
      · have n2 : its2.toArray[k]? = none := by rw [List.getElem?_toArray]; exact List.getElem?_eq_none c2
        exact wpAny_pyNext_zipD2_end (RZm.sep_of D) (RZm.drawsL_end hd i a D.l1i1 its.toArray k n1) (RZm.drawsT_end hd j b D.l2i2 its2.toArray k n2) t1 t2 t3 ⟨rfl, t4, p1.isList⟩ ⟨rfl, t5, p2⟩ (Nat.le_refl _) (Nat.le_refl _) (.inl rfl) fin
      · exact wpAny_pyNext_zipD2_end (RZm.sep_of D) (RZm.drawsL_end hd i a D.l1i1 its.toArray k n1) (Draws.tuple hd j b D.l2i2 its2.toArray) t1 t2 t3 ⟨rfl, t4, p1.isList⟩ ⟨t5, p2⟩ (Nat.le_refl _) (by simp; omega) (.inl rfl) fin
    · have c2 : its2.length ≤ k := by rcases g3 with g | g <;> omega
      have n2 : its2.toArray[k]? = none := by rw [List.getElem?_toArray]; exact List.getElem?_eq_none c2
      exact wpAny_pyNext_zipD2_end (RZm.sep_of D) (Draws.list hd i a D.l1i1 its.toArray) (RZm.drawsT_end hd j b D.l2i2 its2.toArray k n2) t1 t2 t3 ⟨t4, p1.isList⟩ ⟨rfl, t5, p2⟩ (by simp; omega) (Nat.le_refl _) (.inr rfl) fin
  self := fun A k s Q E st h => wpAny_pyIter_zip st.1 h
def iZipM (K : PySem.W.Frag) (ta : TA) : TI := fun σ H R => ta σ H fun ws H1 => ∃ a b us vs, ws = [.ref a, .ref b] ∧ SqL K H1 a us ∧ SqT K H1 b vs ∧ R (ItLT K a b) H1
theorem pi_zipM {X : Cx} {e e2 : Expr} {ta : TA} {pz pos tp : Pos} {es : List Expr} {n : Nat} (hg : Gl X "zip") (hm : X.mg "zip" = none) (ha : PA X [e, e2] ta)
    (hs : starEach [e, e2] X.env = (false, eval e X.env) :: starEach [e2] X.env := by rfl) (hpl : (backTo pos (starEach [e2] X.env)).any (·.1) = false := by rfl) :
    PI X (.Tuple es n tp) (.Call (.Name "zip" pz) [e, e2] [] pos) (iZipM X.K ta) := by
  refine ⟨fun pins s σ H R I h => Call_ (ld_blt I hg hm PyProof.Rows.boot_zip (PyProof.Rows.callWith_type1 (thn (ha.run pos pins s σ H _ I h) fun us s1 ⟨ws, H1, I1, r1, q1⟩ => ?_) hs hpl))⟩
  obtain ⟨a, b, xs, ys, rfl, g1, g2, q⟩ := q1
  cases r1 with
  | cons r rr =>
    cases rr with
    | cons r' rr =>
      cases rr
      cases r
      cases r'
      obtain ⟨its, rv, p1, _⟩ := I1.list g1
      obtain ⟨its2, rv2, p2, _⟩ := I1.tuple g2
      obtain ⟨o2, ho2, _⟩ := id p2
      have fr : ∀ c, c ∈ [s1.heap.objs.size + 4, s1.heap.objs.size + 2, s1.heap.objs.size + 3, s1.heap.objs.size, s1.heap.objs.size + 1] → FpOk X pins H1 c := fun c hcm => by
        have le : s1.heap.objs.size ≤ c := by
          simp only [List.mem_cons, List.mem_nil_iff, or_false] at hcm
          rcases hcm with g | g | g | g | g <;> rw [g] <;> first | exact Nat.le_add_right _ _ | exact Nat.le_refl _
        exact I1.fpOk le (I1.hok.fresh le)
      refine RZm.call_zipM p1.isList (show s1.heap.IsTuple b its2.toArray from p2) fun h' z1 z2 z3 z4 z5 hk => wpAny_pyIter_zip z1 ?_
      have I2 : Inv X pins σ H1 { s1 with heap := h' } := I1.kept (t' := s1.toks) hk
      exact ⟨s1.heap.objs.size + 4, [s1.heap.objs.size + 4, s1.heap.objs.size + 2, s1.heap.objs.size + 3, s1.heap.objs.size, s1.heap.objs.size + 1], _, _, H1, rfl, I2, turn_zipM (PySem.W.ktu_apart s1.heap.objs.size a b p1.lt (Heap.lt_size ho2)), ⟨z1, z2, ⟨_, _, z3⟩, z4, z5⟩, fr, q⟩
end L2
namespace GL
open PySem PySem.Spec PyProof.Rows L2
section
variable {K : Fg} {B S0 S1 S S' D : Hp} {σ : L2.St} {H H' : Hp} {F : Nat → List Addr} {G G' G1 G2 G3 : List Sl} {ta tb tc te : TE}
theorem wk_zipM {α β : Type} [Py α] [Py β] {S : Hp} {p p' : Addr} {vs vs' : List V} {xs : List α} {ys : List β} (hp : S p = some (.lst vs)) (r : RepL K S vs xs) (hp' : SqT K S p' vs') (r' : RepL K S vs' ys) : Wk K (ItLT K p p') S (xs.zip ys) := fun S' H' i e1 e2 => by
  have h1 : SqL K H' p vs := SqL.of (e2 _ _ (e1 _ _ hp))
  have h2 : SqT K H' p' vs' := seqT e2 (seqT e1 hp')
  refine ⟨fun x hx => ?_, fun hl => ⟨vs, vs', h1, h2, ?_⟩⟩
  · have hi := (List.getElem?_eq_some_iff.mp hx).1
    rw [List.length_zip] at hi
    have hx1 : xs[i]? = some x.1 := by
      rw [List.getElem?_eq_getElem (show i < (xs.zip ys).length by rw [List.length_zip]; exact hi), List.getElem_zip] at hx
      cases hx
      exact List.getElem?_eq_getElem _
    have hx2 : ys[i]? = some x.2 := by
      rw [List.getElem?_eq_getElem (show i < (xs.zip ys).length by rw [List.length_zip]; exact hi), List.getElem_zip] at hx
      cases hx
      exact List.getElem?_eq_getElem _
    obtain ⟨v, hv, rv⟩ := r.get hx1
    obtain ⟨v', hv', rv'⟩ := r'.get hx2
    refine ⟨⟨vs, vs', v, v', h1, h2, hv, hv'⟩, fun w H'' y => ?_⟩
    obtain ⟨T, u, u', rfl, hT, rfl, y1, y2⟩ := y
    have e := y1 vs h1
    rw [hv] at e
    cases e
    have e := y2 vs' h2
    rw [hv'] at e
    cases e
    have g := Grow.new (o := .tup [v, v']) e2 hT
    exact ⟨_, g, T, v, v', rfl, SqT.of upd_same, Py.mono (e1.trans g.s) rv, Py.mono (e1.trans g.s) rv'⟩
  · rw [List.length_zip] at hl
    rw [r.len, r'.len]
    omega
theorem it_zipM {α β : Type} [Py α] [Py β] {xs : List α} {ys : Tp β} (h : EvX K ta G xs G1) (h' : EvX K tb G1 ys G2) : ItG K (iZipM K (tCons ta (tCons tb tNil))) G (xs.zip ys.l) G2 := fun B S0 S σ H F k R q =>
  h B S0 S σ H F k _ fun v S1 H1 e1 k1 r1 => h' B S0 S1 σ H1 F k1 _ fun w S2 H2 e2 k2 r2 => by
    obtain ⟨p, vs, rfl, hp, hr⟩ := Py.mono e2 r1
    obtain ⟨p', vs', rfl, hp', hr'⟩ := r2
    exact ⟨p, p', vs, vs', rfl, SqL.of (k2.sub _ _ hp), seqT k2.sub hp', q _ S2 H2 (e1.trans e2) k2 (wk_zipM hp hr hp' hr')⟩
end
end GL

/-! Texts: walked by signs, len, one sign, split, join, int; str of data; None in data; == []; a dict's get. -/
namespace PySem.SeqAt
open AutoSeq1 (wpAny_loadPart')
open MeetsSeq MeetsSeq2 MeetsSeq3 SeqRoads2
section
variable {prog : Program} {w : World}
theorem tb_list_neIn (l b : Addr) (items items2 : Array Value) (n n2 : Nat) (dd dd2 : Option Addr) (sl sl2 : Array (Option Value)) (hsz : items.size ≠ items2.size) :
    MeetsIn prog w (Builtin.«list.__eq__» ⟨[.ref l, .ref b], []⟩)
      (fun A R s => s.heap.get? l = some { cls := .type "list", dict := dd, data := .seq items n, slots := sl } ∧ s.heap.get? b = some { cls := .type "list", dict := dd2, data := .seq items2 n2, slots := sl2 } ∧
        R (.ok (.ret (.bool false))) s) := by
  intro A R s h
  obtain ⟨hp, g, d, tk, os⟩ := s; obtain ⟨hl, hb, h⟩ := h
  have f3 := AutoSeq1.sub_list_list
  have hne : (items.size != items2.size) = true := by simp [hsz]
  wp_walk using wpAny_loadPart' hl, wpAny_loadPart' hb
  exact h
theorem tb_listsN {A : Around} {s : Shared} {l b : Addr} {items items2 : Array Value} (hl : s.heap.IsList l items) (hb : s.heap.IsList b items2) (hsz : items.size ≠ items2.size) (hu : A.units < cLine)
    (E Q : Value → Shared → Prop) (h : Q (.bool false) s) : wpAny (model prog w) A (richCompare .Eq (.ref l) (.ref b)) Q E s := by
  obtain ⟨⟨cls, dd, data, sl⟩, ho, hc, n, hd⟩ := id hl
  obtain ⟨⟨cls2, dd2, data2, sl2⟩, ho2, hc2, n2, hd2⟩ := id hb
  simp only at hc hd hc2 hd2
  subst hc hd hc2 hd2
  have ta : s.TypeIs (.ref l) "list" := ⟨_, ho, rfl⟩
  have tb : s.TypeIs (.ref b) "list" := ⟨_, ho2, rfl⟩
  exact wpAny_richCompare_same_room (op := .Eq) ta tb F.slot_list_eq (call_meetsIn F.slot_list_eq ta F.entry_list_eq (F.args_list_eq_2 _ _) (tb_list_neIn l b items items2 n n2 dd dd2 sl sl2 hsz)
    ⟨ho, ho2, show Value.bool false ≠ Value.notImplemented ∧ Q (.bool false) s from ⟨(fun x => nomatch x), h⟩⟩) hu
end
end PySem.SeqAt
namespace L2
open PySem PySem.Spec PyProof.Rows
def rEqNl (K : PySem.W.Frag) : R2 := fun x y H Q => ∃ p q xs, x = .ref p ∧ y = .ref q ∧ SqL K H p xs ∧ SqL K H q [] ∧ Q (.bl xs.isEmpty) H
theorem op_eqNl {X : Cx} (hu : X.A.units < cLine) : OpR X (compareOp .Eq) (rEqNl X.K) := by
  intro pins s σ H x y v u Q I rx ry h
  obtain ⟨p, r, xs, rfl, rfl, h1, h2, q⟩ := h
  cases rx
  cases ry
  obtain ⟨its, rv, pl, hz⟩ := I.list h1
  obtain ⟨its2, rv2, pl2, hz2⟩ := I.list h2
  have e2 : its2 = [] := by cases rv2; rfl
  subst e2
  show wpAny (model X.prog X.w) X.A (richCompare .Eq (.ref p) (.ref r)) (EP X pins σ Q) X.xe s
  cases xs with
  | nil =>
    have e1 : its = [] := by cases rv; rfl
    subst e1
    exact PySem.SeqAt.rcP_lists (e := fun _ => true) pl.isList pl2.isList rfl hu (fun j h1 => absurd h1 (by simp)) _ _ ⟨.bl true, H, I, rfl, q⟩
  | cons a xs =>
    cases rv with
    | cons r1 rv => exact PySem.SeqAt.tb_listsN pl.isList pl2.isList (by simp) hu _ _ ⟨.bl false, H, I, rfl, q⟩
/-! texts -/
def rLenX : List V → Hp → VK → Prop := fun xs H Q => ∃ z, xs = [.str z] ∧ z.length ≤ sizeLine ∧ Q (.int z.length) H
theorem call_lenX {X : Cx} : CallR X (.builtin "len") rLenX := call_len_str
def inS (i j : Str) : Bool := !(Builtin.Str.occurrences j i 0 j.length 1).isEmpty
def rNinS : R2 := fun x y H Q => ∃ i j, x = .str i ∧ y = .str j ∧ Q (.bl (!inS i j)) H
theorem op_ninS {X : Cx} : OpR X (compareOp .NotIn) rNinS := op_notIn_str
def rInS : R2 := fun x y H Q => ∃ i j, x = .str i ∧ y = .str j ∧ Q (.bl (inS i j)) H
theorem op_inS {X : Cx} : OpR X (compareOp .In) rInS := op_in_str
def rIntX : List V → Hp → VK → Prop := fun xs H Q => ∃ a n, xs = [.str a] ∧ PySem.intText? a = some n ∧ a.length ≤ 640 ∧ Q (.int n) H
theorem call_intX {X : Cx} : CallR X (.type "int") rIntX := call_int_str
def rSplitS : V → List V → Hp → VK → Prop := fun x xs H Q => ∃ a b, x = .str a ∧ xs = [.str b] ∧ (b.length == 0) = false ∧ a.length + 2 ≤ sizeLine ∧ rNewStrs (Txt.split a b) H Q
def rJoinS (K : PySem.W.Frag) : V → List V → Hp → VK → Prop := fun x xs H Q => ∃ a p, ∃ ys : List Str, x = .str a ∧ xs = [.ref p] ∧ (SqL K H p (ys.map V.str) ∨ SqT K H p (ys.map V.str)) ∧
    (ys.map (·.length)).sum + ys.length * a.length ≤ 16777216 ∧ Q (.str (Txt.join a ys)) H
/-- str of a text or a number -/
def rStrD : List V → Hp → VK → Prop := fun xs H Q => (∃ a, xs = [.str a] ∧ Q (.str a) H) ∨ (∃ i, xs = [.int i] ∧ i.natAbs.log2 < 1920 ∧ Q (.str (toString i)) H)
theorem call_strD {X : Cx} : CallR X (.type "str") rStrD := by
  intro pins s σ H xs us Q I rs h
  rcases h with h | h
  · exact SkE.call_str_str pins s σ H xs us Q I rs h
  · exact call_str_int pins s σ H xs us Q I rs h
end L2
namespace GL
open PySem PySem.Spec PyProof.Rows L2
def signs (a : Str) : List Str := a.cps.toList.map fun c => (⟨#[c]⟩ : Str)
def partT : Dat → Str
  | .int n => Str.ofString (toString n)
  | .str s => s
  | _ => Str.empty
def TxtOk : Dat → Prop
  | .int n => n.natAbs.log2 < 1920
  | .str _ => True
  | _ => False
/-- a module's text -/
theorem pe_globS {X : Cx} {x : Str} {z : Str} {pos : Pos} (hg : Gl X x) (hm : ∃ t, X.mg x = some (.str z t)) (hd : (x == ("__debug__" : Str)) = false := by decide) : PE X (.Name x pos) (tC (.str z)) := by
  obtain ⟨t, h⟩ := hm
  exact pe_glob (v := .str z) hg h ⟨t, rfl⟩ hd
section
variable {K : Fg} {B S0 S1 S S' D : Hp} {σ : L2.St} {H H' : Hp} {F : Nat → List Addr} {G G' G1 G2 G3 : List Sl} {ta tb tc te : TE} {i j : Nat} {t u w : TS} {E : Ends}
theorem it_signs {a : Str} (h : EvX K ta G a G1) : ItG K (iStr ta) G (signs a) G1 := fun B S0 S σ H F k R q =>
  h B S0 S σ H F k _ fun v S1 H1 e1 k1 r1 => ⟨a, r1, q _ S1 H1 e1 k1 fun S' H' i e e2 => by
    have hl : (signs a).length = a.cps.size := by unfold signs; rw [List.length_map, Array.length_toList]
    refine ⟨fun x hx => ?_, fun h => by rw [hl] at h; exact h⟩
    have hi : i < a.cps.size := by rw [← hl]; exact (List.getElem?_eq_some_iff.mp hx).1
    refine ⟨hi, fun v H'' y => ?_⟩
    obtain ⟨rfl, c, hc, rfl⟩ := y
    refine ⟨S', Grow.refl e2, ?_⟩
    unfold signs at hx
    rw [List.getElem?_map, Array.getElem?_toList, hc] at hx
    cases hx
    rfl⟩
theorem ev_lenX {a : Str} (h : EvX K ta G a G1) (hz : a.length ≤ sizeLine) : EvX K (tCB rLenX (tCons ta tNil)) G (a.length : Int) G1 := fun B S0 S σ H F k Q q =>
  h B S0 S σ H F k _ fun v S1 H1 e1 k1 r1 => ⟨a, by rw [show v = .str a from r1], hz, q _ S1 H1 e1 k1 rfl⟩
theorem ev_sgS {a : Str} {n : Int} (h : EvX K ta G a G1) (hb : EvX K tb G1 n G2) (hz : a.length ≤ sizeLine) (hn : 0 ≤ n ∧ n < (a.length : Int)) : EvX K (tOp rIxS ta tb) G (ix (signs a) n) G2 := fun B S0 S σ H F k Q q =>
  h B S0 S σ H F k _ fun v S1 H1 e1 k1 r1 => hb B S0 S1 σ H1 F k1 _ fun w S2 H2 e2 k2 r2 => by
    have hi : n.toNat < a.cps.toList.length := by
      have h2 := hn.2
      have : a.length = a.cps.toList.length := by rw [Array.length_toList]; rfl
      omega
    refine ⟨a, n, a.cps.toList[n.toNat], r1, r2, hz, ?_, q _ S2 H2 (e1.trans e2) k2 ?_⟩
    · unfold atI ixN
      have h2 := hn.2
      have : a.length = a.cps.toList.length := by rw [Array.length_toList]; rfl
      rw [if_pos hn.1, if_pos (by omega)]
      exact List.getElem?_eq_getElem hi
    · show V.str _ = V.str _
      congr 1
      unfold ix signs
      rw [List.getD_eq_getElem?_getD, List.getElem?_map, List.getElem?_eq_getElem hi]
      rfl
theorem ev_ninS {a b : Str} (h : EvX K ta G a G1) (hb : EvX K tb G1 b G2) : EvX K (tOp rNinS ta tb) G (!inS a b) G2 := fun B S0 S σ H F k Q q =>
  h B S0 S σ H F k _ fun v S1 H1 e1 k1 r1 => hb B S0 S1 σ H1 F k1 _ fun w S2 H2 e2 k2 r2 => ⟨a, b, r1, r2, q _ S2 H2 (e1.trans e2) k2 rfl⟩
theorem ev_inS {a b : Str} (h : EvX K ta G a G1) (hb : EvX K tb G1 b G2) : EvX K (tOp rInS ta tb) G (inS a b) G2 := fun B S0 S σ H F k Q q =>
  h B S0 S σ H F k _ fun v S1 H1 e1 k1 r1 => hb B S0 S1 σ H1 F k1 _ fun w S2 H2 e2 k2 r2 => ⟨a, b, r1, r2, q _ S2 H2 (e1.trans e2) k2 rfl⟩
theorem ev_intX {a : Str} (h : EvX K ta G a G1) (hi : (PySem.intText? a).isSome = true) (hl : a.length ≤ 640) : EvX K (tCB rIntX (tCons ta tNil)) G ((PySem.intText? a).getD 0) G1 := fun B S0 S σ H F k Q q =>
  h B S0 S σ H F k _ fun v S1 H1 e1 k1 r1 => by
    obtain ⟨n, hn⟩ := Option.isSome_iff_exists.mp hi
    rw [hn] at q
    exact ⟨a, n, by rw [show v = .str a from r1], hn, hl, q _ S1 H1 e1 k1 rfl⟩
theorem ev_strD {d : Dat} (h : EvX K ta G d G1) (hd : TxtOk d) : EvX K (tCB rStrD (tCons ta tNil)) G (partT d) G1 := fun B S0 S σ H F k Q q =>
  h B S0 S σ H F k _ fun v S1 H1 e1 k1 r1 => by
    cases r1 with
    | int n => exact .inr ⟨n, rfl, hd, q _ S1 H1 e1 k1 rfl⟩
    | str s => exact .inl ⟨s, rfl, q _ S1 H1 e1 k1 rfl⟩
    | non => exact absurd hd (fun h => h)
    | bl b => exact absurd hd (fun h => h)
    | tup _ _ => exact absurd hd (fun h => h)
    | lst _ _ => exact absurd hd (fun h => h)
theorem el_splitS {a b : Str} (h : EvX K ta G a G1) (hb : EvX K tb G1 b G2) (h0 : (b.length == 0) = false) (hz : a.length + 2 ≤ sizeLine) : EvL K (tM1 rSplitS ta tb) G (Txt.split a b) G2 := fun B S0 S σ H F k Q q =>
  h B S0 S σ H F k _ fun v S1 H1 e1 k1 r1 => ⟨⟨a, r1⟩, hb B S0 S1 σ H1 F k1 _ fun w S2 H2 e2 k2 r2 => ⟨a, b, r1, by rw [show w = .str b from r2], h0, hz, fun p hp =>
    mk_list k2 hp (repL_strs _) fun p vs S3 H3 e3 k3 a b c d r => q p vs S3 H3 ((e1.trans e2).trans e3) k3 a b c d r⟩⟩
theorem ev_joinS {a : Str} {ys : List Str} (h : EvX K ta G a G1) (hb : EvC K tb G1 ys G2) (hz : (ys.map (·.length)).sum + ys.length * a.length ≤ 16777216) : EvX K (tM1 (rJoinS K) ta tb) G (Txt.join a ys) G2 := fun B S0 S σ H F k Q q =>
  h B S0 S σ H F k _ fun v S1 H1 e1 k1 r1 => ⟨⟨a, r1⟩, hb B S0 S1 σ H1 F k1 _ fun w S2 H2 e2 k2 r2 => by
    obtain ⟨p, vs, rfl, hp, hr⟩ := r2.at k2
    rw [hr.strs] at hp
    exact ⟨a, p, ys, r1, rfl, .inl (SqL.of hp), hz, q _ S2 H2 (e1.trans e2) k2 rfl⟩⟩
/-! data -/
def NoneOk (xs : List Dat) : Prop := ∀ d ∈ xs, d.isN = true ∨ d.isInt = true
theorem none_flat : ∀ {S : Hp} {vs : List V} {xs : List Dat}, RepL K S vs xs → NoneOk xs → vs.all flatV = true ∧ inV .non vs = xs.any Dat.isN
  | _, [], [], _, _ => ⟨rfl, rfl⟩
  | _, v :: vs, d :: xs, ⟨r, rs⟩, h => by
    obtain ⟨a, b⟩ := none_flat rs fun x hx => h x (List.mem_cons_of_mem _ hx)
    have hd := h d (List.mem_cons_self ..)
    unfold inV at b ⊢
    rw [List.all_cons, List.any_cons, List.any_cons, a, b]
    cases (show DRep K _ v d from r) with
    | non => exact ⟨rfl, rfl⟩
    | int n => exact ⟨rfl, rfl⟩
    | bl b => exact ⟨rfl, rfl⟩
    | str s => exact ⟨rfl, rfl⟩
    | tup _ _ => rcases hd with hd | hd <;> cases hd
    | lst _ _ => rcases hd with hd | hd <;> cases hd
theorem ev_noneIn {xs : List Dat} (hb : EvC K tb G xs G1) (h : NoneOk xs) : EvX K (tOp (rIn K false) (tC .non) tb) G (xs.any Dat.isN) G1 := fun B S0 S σ H F k Q q =>
  hb B S0 S σ H F k _ fun w S2 H2 e2 k2 r2 => by
    obtain ⟨p, vs, rfl, hp, hr⟩ := r2.at k2
    obtain ⟨a, b⟩ := none_flat hr h
    exact ⟨p, vs, rfl, .inl (SqL.of hp), rfl, a, q _ S2 H2 e2 k2 (by rw [b]; rfl)⟩
theorem ev_eqNl {α : Type} [Py α] {xs : List α} (ha : EvC K ta G xs G1) : EvX K (tOp (rEqNl K) ta (tLst tNil)) G (decide (xs.length = 0)) G1 := fun B S0 S σ H F k Q q =>
  ha B S0 S σ H F k _ fun v S1 H1 e1 k1 r1 => ⟨by show 0 ≤ sizeLine; decide, fun p hp => by
    obtain ⟨a, vs, rfl, h1, h2⟩ := r1.at k1
    have hne : a ≠ p := fun e => by rw [e, hp] at h1; cases h1
    have hv : upd H1 p (.lst []) a = some (.lst vs) := by rw [upd_ne hne]; exact h1
    refine ⟨a, p, vs, rfl, rfl, SqL.of hv, SqL.of upd_same, q _ S1 _ e1 (k1.raw hp) ?_⟩
    show V.bl vs.isEmpty = V.bl _
    have := h2.len
    cases vs with
    | nil => rw [decide_eq_true (by simpa using this.symm)]; rfl
    | cons x vs => rw [decide_eq_false (by rw [← this]; simp)]; rfl⟩
theorem ev_td2 {a b : Str} {x y : Int} (hx : EvX K ta G x G) (hy : EvX K tb G y G) (n1 : a ≠ b) : EvX K (tDisp [(tC (.str a), ta), (tC (.str b), tb)]) G (TD.mk [(a, x), (b, y)]) G := fun B S0 S σ H F k Q q => fun p hp => by
  obtain ⟨f1, f2, f3⟩ := k.free hp
  have k1 := (k.raw (o := .dK []) hp).pin upd_same f1 f3
  refine hx _ S0 S σ _ F k1 _ fun v S1 H1 e1 k2 r1 => hy _ S0 S1 σ H1 F k2 _ fun u S3 H3 e2 k4 r2 => ?_
  have hk := k4.keep p _ upd_same
  have hs : S3 p = none := (k4.clean p _ upd_same).trans (k.s0.free f1)
  have k5 := (k4.unpin f2).poke (o := .dK (TD.mk [(a, x), (b, y)]).kv) hs f2 f3
  refine ⟨hk, [(Sum.inr a, .int x), (Sum.inr b, .int y)], by rw [show v = .int x from r1, show u = .int y from r2]; rfl, by show 2 ≤ 15; decide, ?_⟩
  have em : mergeK [] [((Sum.inr a : Key), V.int x), (Sum.inr b, .int y)] = (TD.mk [(a, x), (b, y)]).kv := by
    simp [mergeK, putK, TD.kv, n1]
  rw [em]
  exact q _ _ _ ((e1.trans e2).trans (same_new hs)) (k5.settle upd_same hs f2 f3) ⟨p, rfl, upd_same⟩
theorem ev_tdget2 {d : TD} {s : Str} {n : Int} (hd : EvX K ta G d G1) (hk : EvX K tb G1 s G2) (hn : EvX K tc G2 n G3) : EvX K (tDGet2 ta tb tc) G ((d.get? s).getD n) G3 := fun B S0 S σ H F k Q q =>
  hd B S0 S σ H F k _ fun v S1 H1 e1 k1 r1 => by
    obtain ⟨p, rfl, hp⟩ := r1
    refine ⟨p, rfl, (.inl ⟨_, Rd.of (k1.sub _ _ hp)⟩), hk B S0 S1 σ H1 F k1 _ fun u S2 H2 e2 k2 r2 => hn B S0 S2 σ H2 F k2 _ fun x S3 H3 e3 k3 r3 => ?_⟩
    rw [show u = .str s from r2]
    have g := DGet.k (k := Sum.inr s) (k3.sub _ _ (e3 _ _ (e2 _ _ hp)))
    rw [show valV d.kv (Sum.inr s) = (d.get? s).map V.int from TD.val s d.l] at g
    refine ⟨_, g, q _ S3 H3 ((e1.trans e2).trans e3) k3 ?_⟩
    rw [show x = .int n from r3]
    cases d.get? s <;> rfl
end
end GL

/-! What is a program: data looked at; the law's own look. -/
namespace GL
open PySem PySem.Spec PyProof.Rows L2
section
variable {K : Fg} {B S0 S : Hp} {G G1 G2 : List Sl} {ta tb te : TE} {i : Nat}
/-! rows as data -/
def WRow.dats (r : WRow) : List Dat := .str r.word :: r.nums.map .int
theorem WRow.dats_len (r : WRow) : r.dats.length = r.nums.length + 1 := by unfold WRow.dats; rw [List.length_cons, List.length_map]
theorem WRow.nums_le (r : WRow) : r.nums.length ≤ 2 := by cases r <;> simp [WRow.nums]
theorem WRow.word_le (r : WRow) : r.word.length ≤ 4 := by cases r <;> (unfold WRow.word; dsimp only; decide +kernel)
theorem EvX.rowT {r : WRow} (h : EvX K te G r G1) : EvX K te G (Tp.mk r.dats) G1 := fun B S0 S σ H F k Q q => h B S0 S σ H F k Q fun v S' H' e k' r' => q v S' H' e k' (by
  obtain ⟨p, h1, h2⟩ := r'
  exact ⟨p, _, h1, h2, (DRepL.cons (.str _) (drep_ints _)).rep⟩)
theorem ev_rowAt {r : WRow} {n : Int} (ha : EvX K ta G r G1) (hb : EvX K tb G1 n G2) (h : 1 ≤ n ∧ n ≤ r.nums.length) : EvX K (tOp (rIxT K) ta tb) G (ix r.nums (n - 1)) G2 := fun B S0 S σ H F k Q q =>
  ha B S0 S σ H F k _ fun v S1 H1 e1 k1 r1 => hb B S0 S1 σ H1 F k1 _ fun u S2 H2 e2 k2 r2 => by
    obtain ⟨p, rfl, hp⟩ := Py.mono e2 r1
    refine ⟨p, _, n, .int (ix r.nums (n - 1)), rfl, r2, seqT k2.sub hp, atI_of (by omega) ?_, q _ S2 H2 (e1.trans e2) k2 rfl⟩
    obtain ⟨m, hm⟩ : ∃ m, n.toNat = m + 1 := ⟨n.toNat - 1, by omega⟩
    unfold WRow.vals
    rw [hm, List.getElem?_cons_succ, List.getElem?_map]
    have := ix_at (xs := r.nums) (i := n - 1) (by omega) (by omega)
    rw [show (n - 1).toNat = m by omega] at this
    rw [this]
    rfl
theorem ev_lenRow {r : WRow} (ha : EvX K ta G r G1) : EvX K (tCB (rLenS K) (tCons ta tNil)) G ((r.nums.length : Int) + 1) G1 := fun B S0 S σ H F k Q q =>
  ha B S0 S σ H F k _ fun v S1 H1 e1 k1 r1 => by
    obtain ⟨p, rfl, hp⟩ := r1
    refine ⟨p, _, rfl, .inr (seqT k1.sub hp), q _ S1 H1 e1 k1 ?_⟩
    show V.int _ = V.int _
    unfold WRow.vals
    rw [List.length_cons, List.length_map]
    rfl
theorem EvX.asT3 {d : Dat} (h : EvX K te G d G1) (hd : d.isT = true ∧ d.items.length = 3) : EvX K te G (T3.mk (ix d.items 0) (ix d.items 1) (ix d.items 2)) G1 := by
  cases d with
  | tup l =>
    obtain ⟨_, h3⟩ := hd
    match l, h3 with
    | [a, b, c], _ =>
      intro B S0 S σ H F k Q q
      refine h B S0 S σ H F k Q fun v S' H' e k' r' => q v S' H' e k' ?_
      cases r' with
      | tup h1 h2 =>
        cases h2 with
        | cons ra h2 =>
          cases h2 with
          | cons rb h2 =>
            cases h2 with
            | cons rc h2 =>
              cases h2
              exact ⟨_, _, _, _, rfl, h1, ra, rb, rc⟩
  | _ => exact absurd hd.1 Bool.false_ne_true
end
/-! ### what is a row, a program -/
def LimOk (lim : TD) : Prop := ∀ s l, partsM s = some l → ∀ x ∈ l, (lim.get? x).isSome = true
def rowD (lim : TD) (d : Dat) : Bool := d.isT && (!decide (d.items.length = 0) && ((ix d.items 0).isS && match partsM (ix d.items 0).toS with
  | none => false
  | some l => decide (d.items.length = l.length + 1) && ((cutL d.items (some 1) none).zip l).all fun p => btwD p.1 0 ((lim.get? p.2).getD 0 - 1)))
def lim3 (n w m : Int) : TD := TD.mk [("sheet", n), ("number", w), ("row", m)]
def progD (d : Dat) : Bool := d.isT && (decide (d.items.length = 3) && (btwD (ix d.items 0) 1 12 && (btwD (ix d.items 1) 2 100 && ((ix d.items 2).isT && (decide (1 ≤ (ix d.items 2).items.length) && (decide ((ix d.items 2).items.length ≤ 20) && (ix d.items 2).items.all (rowD (lim3 (ix d.items 0).toI (ix d.items 1).toI (ix d.items 2).items.length))))))))
theorem rd_no1 {lim : TD} {d : Dat} (h : (!d.isT || (decide ((d.items.length : Int) = 0) || (!(ix d.items 0).isS || !(partsM (ix d.items 0).toS).isSome))) = true) : false = rowD lim d := by
  have e : decide ((d.items.length : Int) = 0) = decide (d.items.length = 0) := decide_eq_decide.mpr (by omega)
  rw [e] at h
  unfold rowD
  revert h
  generalize d.isT = x1
  generalize decide (d.items.length = 0) = x2
  generalize (ix d.items 0).isS = x3
  cases partsM (ix d.items 0).toS <;> cases x1 <;> cases x2 <;> cases x3 <;> intro h <;> first | rfl | cases h
theorem rd_yes1 {d : Dat} (h : (!d.isT || (decide ((d.items.length : Int) = 0) || (!(ix d.items 0).isS || !(partsM (ix d.items 0).toS).isSome))) = false) : d.isT = true ∧ d.items.length ≠ 0 ∧ (ix d.items 0).isS = true ∧ (partsM (ix d.items 0).toS).isSome = true := by
  obtain ⟨h1, h2⟩ := Bool.or_eq_false_iff.mp h
  obtain ⟨h3, h4⟩ := Bool.or_eq_false_iff.mp h2
  obtain ⟨h5, h6⟩ := Bool.or_eq_false_iff.mp h4
  have := of_decide_eq_false h3
  exact ⟨by simpa using h1, by omega, by simpa using h5, by simpa using h6⟩
theorem rd_no2 {lim : TD} {d : Dat} (h : (!decide ((d.items.length : Int) = (((partsM (ix d.items 0).toS).getD []).length : Int) + 1)) = true) : false = rowD lim d := by
  unfold rowD
  cases e : partsM (ix d.items 0).toS with
  | none => cases d.isT <;> cases decide (d.items.length = 0) <;> cases (ix d.items 0).isS <;> rfl
  | some l =>
    rw [e] at h
    have h' : decide (d.items.length = l.length + 1) = false := by
      rw [decide_eq_false]
      intro q
      rw [decide_eq_true (by show (d.items.length : Int) = (l.length : Int) + 1; omega)] at h
      cases h
    dsimp only
    rw [h']
    cases d.isT <;> cases decide (d.items.length = 0) <;> cases (ix d.items 0).isS <;> rfl
theorem rd_end {lim : TD} {d : Dat} {b : Bool} (h1 : d.isT = true ∧ d.items.length ≠ 0 ∧ (ix d.items 0).isS = true ∧ (partsM (ix d.items 0).toS).isSome = true) (h2 : (!decide ((d.items.length : Int) = (((partsM (ix d.items 0).toS).getD []).length : Int) + 1)) = false)
    (hb : b = ((cutL d.items (some 1) none).zip ((partsM (ix d.items 0).toS).getD [])).all fun p => btwD p.1 0 ((lim.get? p.2).getD 0 - 1)) : b = rowD lim d := by
  obtain ⟨a1, a2, a3, a4⟩ := h1
  obtain ⟨l, hl⟩ := Option.isSome_iff_exists.mp a4
  rw [hl] at h2 hb
  have a5 : d.items.length = l.length + 1 := by
    have : decide ((d.items.length : Int) = (l.length : Int) + 1) = true := by simpa using h2
    have := of_decide_eq_true this
    omega
  unfold rowD
  rw [a1, decide_eq_false a2, a3, hl]
  dsimp only
  rw [decide_eq_true a5, hb]
  rfl
theorem cut_tl {α : Type} (l : List α) : cutL l (some 1) none = l.drop 1 := by
  unfold cutL
  cases l with
  | nil => rfl
  | cons a l =>
    have e1 : HT.sIx (a :: l).length 0 (some 1) = 1 := by
      unfold HT.sIx
      simp
    have e2 : HT.sIx (a :: l).length (a :: l).length none = (a :: l).length := rfl
    rw [e1, e2]
    exact List.take_of_length_le (by rw [List.length_drop]; exact Nat.le_refl _)
theorem lim3_ok (n w m : Int) : LimOk (lim3 n w m) := by
  intro s l h x hx
  have hs : x = "sheet" ∨ x = "number" ∨ x = "row" := by
    unfold partsM at h
    obtain ⟨kv, h1, h2⟩ := Option.map_eq_some_iff.mp h
    have := List.mem_of_find?_eq_some h1
    simp only [partsK, List.mem_cons, List.mem_nil_iff, or_false] at this
    rw [← h2] at hx
    rcases this with e | e | e | e | e | e <;> rw [e] at hx <;> simp only [List.mem_cons, List.mem_nil_iff, or_false, List.not_mem_nil] at hx <;> first | exact hx.elim | (rcases hx with q | q <;> rw [q] <;> simp) | (rw [hx]; simp)
  have d1 : decide (("sheet" : Str) = "number") = false := by decide +kernel
  have d2 : decide (("sheet" : Str) = "row") = false := by decide +kernel
  have d3 : decide (("number" : Str) = "row") = false := by decide +kernel
  rcases hs with e | e | e <;> rw [e] <;> unfold lim3 TD.get? <;> simp [List.find?_cons, d1, d2, d3]
theorem lim3_sheet {n w m : Int} : (lim3 n w m).get? "sheet" = some n := by
  unfold lim3 TD.get?
  simp [List.find?_cons]
theorem lim3_number {n w m : Int} : (lim3 n w m).get? "number" = some w := by
  have d1 : decide (("sheet" : Str) = "number") = false := by decide +kernel
  unfold lim3 TD.get?
  simp [List.find?_cons, d1]
theorem lim3_row {n w m : Int} : (lim3 n w m).get? "row" = some m := by
  have d1 : decide (("sheet" : Str) = "row") = false := by decide +kernel
  have d2 : decide (("number" : Str) = "row") = false := by decide +kernel
  unfold lim3 TD.get?
  simp [List.find?_cons, d1, d2]
/-! the table, word by word -/
theorem parts_set : partsM "set" = some (["sheet", "number"] : List Str) := by decide +kernel
theorem parts_add : partsM "add" = some (["sheet", "sheet"] : List Str) := by decide +kernel
theorem parts_jump : partsM "jump" = some (["sheet", "row"] : List Str) := by decide +kernel
theorem parts_say : partsM "say" = some (["sheet"] : List Str) := by decide +kernel
theorem parts_take : partsM "take" = some (["sheet"] : List Str) := by decide +kernel
theorem parts_end : partsM "end" = some [] := by decide +kernel
theorem parts_no {s : Str} (h1 : s ≠ "set") (h2 : s ≠ "add") (h3 : s ≠ "jump") (h4 : s ≠ "say") (h5 : s ≠ "take") (h6 : s ≠ "end") : partsM s = none := by
  unfold partsM partsK
  simp only [List.find?_cons, List.find?_nil, decide_eq_false (fun e : ("set" : Str) = s => h1 e.symm), decide_eq_false (fun e : ("add" : Str) = s => h2 e.symm), decide_eq_false (fun e : ("jump" : Str) = s => h3 e.symm), decide_eq_false (fun e : ("say" : Str) = s => h4 e.symm), decide_eq_false (fun e : ("take" : Str) = s => h5 e.symm), decide_eq_false (fun e : ("end" : Str) = s => h6 e.symm), Option.map_none]
/-- a row whose word has one number; two -/
theorem rd_word {lim : TD} {d : Dat} {l : List Str} (hT : d.isT = true) (h0 : d.items.length ≠ 0) (hS : (ix d.items 0).isS = true) (hl : partsM (ix d.items 0).toS = some l) : rowD lim d = (decide (d.items.length = l.length + 1) && ((d.items.drop 1).zip l).all fun p => btwD p.1 0 ((lim.get? p.2).getD 0 - 1)) := by
  unfold rowD
  rw [hT, decide_eq_false h0, hS, hl, cut_tl]
  rfl
theorem rd_one {n w m : Int} {d : Dat} (hT : d.isT = true) (h0 : d.items.length ≠ 0) (hS : (ix d.items 0).isS = true) (hl : partsM (ix d.items 0).toS = some (["sheet"] : List Str)) : rowD (lim3 n w m) d = (decide (d.items.length = 2) && btwD (ix d.items 1) 0 (n - 1)) := by
  rw [rd_word hT h0 hS hl]
  match hd : d.items with
  | [] => rw [hd] at h0; exact absurd rfl h0
  | [a] => rfl
  | [a, b] =>
    show (true && (btwD b 0 (((lim3 n w m).get? "sheet").getD 0 - 1) && true)) = (true && btwD b 0 (n - 1))
    rw [lim3_sheet, Bool.and_true]
    rfl
  | a :: b :: c :: r => simp
theorem rd_two {n w m : Int} {d : Dat} {s : Str} {v : Int} (hT : d.isT = true) (h0 : d.items.length ≠ 0) (hS : (ix d.items 0).isS = true) (hl : partsM (ix d.items 0).toS = some (["sheet", s] : List Str)) (hv : (lim3 n w m).get? s = some v) : rowD (lim3 n w m) d = (decide (d.items.length = 3) && (btwD (ix d.items 1) 0 (n - 1) && btwD (ix d.items 2) 0 (v - 1))) := by
  rw [rd_word hT h0 hS hl]
  match hd : d.items with
  | [] => rw [hd] at h0; exact absurd rfl h0
  | [a] => rfl
  | [a, b] => simp
  | [a, b, c] =>
    show (true && (btwD b 0 (((lim3 n w m).get? "sheet").getD 0 - 1) && (btwD c 0 (((lim3 n w m).get? s).getD 0 - 1) && true))) = (true && (btwD b 0 (n - 1) && btwD c 0 (v - 1)))
    rw [lim3_sheet, hv, Bool.and_true]
    rfl
  | a :: b :: c :: e :: r => simp
theorem rd_fin {n w m : Int} {d : Dat} (hT : d.isT = true) (h0 : d.items.length ≠ 0) (hS : (ix d.items 0).isS = true) (hl : (ix d.items 0).toS = "end") : rowD (lim3 n w m) d = decide (d.items.length = 1) := by
  rw [rd_word hT h0 hS (by rw [hl]; exact parts_end)]
  simp
/-! the programs built -/
theorem btw_int {x lo hi : Int} (h : lo ≤ x ∧ x ≤ hi) : btwD (.int x) lo hi = true := by
  unfold btwD
  show (true && (decide (lo ≤ x) && decide (x ≤ hi))) = true
  rw [decide_eq_true h.1, decide_eq_true h.2]
  rfl
theorem rowV_D {n w : Int} {m : Nat} {r : WRow} (h : RowV n w m r) : rowD (lim3 n w m) (ToD.dat r) = true := by
  cases r with
  | set p v =>
    rw [rd_two (s := "number") (v := w) (d := ToD.dat (WRow.set p v)) rfl (by simp [ToD.dat, Dat.items]) rfl parts_set lim3_number]
    show (true && (btwD (.int p) 0 (n - 1) && btwD (.int v) 0 (w - 1))) = true
    rw [btw_int (by have := h.1; omega), btw_int (by have := h.2; omega)]; rfl
  | add p v =>
    rw [rd_two (s := "sheet") (v := n) (d := ToD.dat (WRow.add p v)) rfl (by simp [ToD.dat, Dat.items]) rfl parts_add lim3_sheet]
    show (true && (btwD (.int p) 0 (n - 1) && btwD (.int v) 0 (n - 1))) = true
    rw [btw_int (by have := h.1; omega), btw_int (by have := h.2; omega)]; rfl
  | jump p v =>
    rw [rd_two (s := "row") (v := m) (d := ToD.dat (WRow.jump p v)) rfl (by simp [ToD.dat, Dat.items]) rfl parts_jump lim3_row]
    show (true && (btwD (.int p) 0 (n - 1) && btwD (.int v) 0 ((m : Int) - 1))) = true
    rw [btw_int (by have := h.1; omega), btw_int (by have := h.2; omega)]; rfl
  | say p =>
    rw [rd_one (d := ToD.dat (WRow.say p)) rfl (by simp [ToD.dat, Dat.items]) rfl parts_say]
    show (true && btwD (.int p) 0 (n - 1)) = true
    rw [btw_int (by have := h.1; have := h.2; omega)]; rfl
  | take p =>
    rw [rd_one (d := ToD.dat (WRow.take p)) rfl (by simp [ToD.dat, Dat.items]) rfl parts_take]
    show (true && btwD (.int p) 0 (n - 1)) = true
    rw [btw_int (by have := h.1; have := h.2; omega)]; rfl
  | fin => rw [rd_fin (d := ToD.dat WRow.fin) rfl (by simp [ToD.dat, Dat.items]) rfl rfl]; rfl
theorem prog_D {g : Prog} (h : ProgOk g) : progD (ToD.dat g) = true := by
  unfold progD
  show (true && (true && (btwD (.int g.a) 1 12 && (btwD (.int g.b) 2 100 && (true && (decide (1 ≤ (g.c.l.map ToD.dat).length) && (decide ((g.c.l.map ToD.dat).length ≤ 20) && (g.c.l.map ToD.dat).all (rowD (lim3 g.a g.b ((g.c.l.map ToD.dat).length)))))))))) = true
  rw [btw_int ⟨h.n0, h.n1⟩, btw_int ⟨h.w0, h.w1⟩, List.length_map, decide_eq_true h.m0, decide_eq_true h.m1, List.all_map]
  simp only [Bool.true_and]
  exact List.all_eq_true.mpr fun r hr => rowV_D (h.rows r hr)
end GL
namespace GL
open PySem PySem.Spec PyProof.Rows L2
/-! ### the law's bending of parts and rows -/
def bpSome (g : Prog) (part more : Int) : List Dat := (([0 - 1, 0 - 1 - more, 0, 1, g.a, g.b].map Dat.int ++ [.int (g.c.l.length : Int), .int (100 + more), .bl true, .bl false]) ++ [.non, .str (Str.ofString (toString part)), .tup [.int part], .lst [.int part], .int (g.a - 1), .int (g.b - 1)])
def bentPartM (z : Pen) (g : Prog) (part : Int) : Dat × Pen :=
  let q := penTake z 100000000000000000000000000000000000000000000000000
  let t := penTake q.2 16
  (ix (bpSome g part q.1) t.1, t.2)
theorem bp_len (g : Prog) (part more : Int) : (bpSome g part more).length = 16 := rfl
theorem bp_dle (g : Prog) (part more : Int) : ∀ y ∈ bpSome g part more, DLe 1 y := by
  intro y hy
  simp only [bpSome, List.map_cons, List.map_nil, List.cons_append, List.nil_append, List.append_assoc, List.mem_cons, List.mem_nil_iff, or_false] at hy
  rcases hy with e | e | e | e | e | e | e | e | e | e | e | e | e | e | e | e <;> rw [e] <;> first | exact .int | exact .bl | exact .non | exact .str | exact .tup (by simp) (fun x hx => by rw [List.mem_singleton.mp hx]; exact .int) | exact .lst (by simp) (fun x hx => by rw [List.mem_singleton.mp hx]; exact .int)
theorem bentPart_dle (z : Pen) (g : Prog) (part : Int) : DLe 1 (bentPartM z g part).1 := by
  unfold bentPartM
  have h := pen_bd (penTake z 100000000000000000000000000000000000000000000000000).2 (m := 16) (by decide)
  exact bp_dle g part _ _ (ix_mem (by exact h.1) (by rw [bp_len]; exact h.2))
theorem bentPart_fp (z : Pen) (g : Prog) (part : Int) : Anch.fp (bentPartM z g part).2 = Anch.fp z := by
  unfold bentPartM
  rw [pen_fp, pen_fp]
end GL
namespace GL
open PySem PySem.Spec PyProof.Rows L2
/-- a row bent: things in a row's place -/
def brSome (r : WRow) : List Dat :=
  (([ToD.dat r.dats, ToD.dat (Tp.mk (r.dats ++ [(0 : Int)].map Dat.int)), ToD.dat (Tp.mk (cutL r.dats none (some (-1)))), ToD.dat (Tp.mk ([] : List Int))] ++
    [ToD.dat (Tp.mk ([Txt.upper r.word].map ToD.dat ++ cutL r.dats (some 1) none)), ToD.dat (Tp.mk ([("stay" : Str)].map ToD.dat ++ cutL r.dats (some 1) none)), ToD.dat r.word, ToD.dat (), ToD.dat (7 : Int), ToD.dat true, ToD.dat (0 : Int)]) ++
    (([r.word ++ " ", " " ++ r.word, Txt.slice r.word none (some (-1)), r.word ++ Txt.slice r.word none (some 1), Txt.upper (Txt.slice r.word none (some 1)) ++ Txt.slice r.word (some 1) none, ""] ++ [r.word ++ "\n"]).map fun word : Str => Tp.mk ([word].map ToD.dat ++ cutL r.dats (some 1) none)).map ToD.dat) ++
    [ToD.dat (Tp.mk ([Tp.mk [r.word]].map ToD.dat ++ cutL r.dats (some 1) none)), ToD.dat (Tp.mk ([[r.word]].map ToD.dat ++ cutL r.dats (some 1) none)), ToD.dat (Tp.mk [r])]
def bentRowM (z : Pen) (g : Prog) (r : WRow) : Dat × Pen :=
  let b := decide ((r.nums.length : Int) + 1 = 1)
  let z1 := if b = true then z else (penTake z 3).2
  if (b || decide ((penTake z 3).1 = 0)) = true then (ix (brSome r) (penTake z1 21).1, (penTake z1 21).2)
  else
    let t := penTake z1 ((r.nums.length : Int) + 1 - 1)
    let q := bentPartM t.2 g (ix r.nums (1 + t.1 - 1))
    (ToD.dat (Tp.mk (cutL r.dats none (some (1 + t.1)) ++ [q.1] ++ cutL r.dats (some (1 + t.1 + 1)) none)), q.2)
theorem br_len (r : WRow) : (brSome r).length = 21 := by
  unfold brSome
  simp
theorem dats_dle (r : WRow) : ∀ y ∈ r.dats, DLe 0 (ToD.dat y) := by
  intro y hy
  unfold WRow.dats at hy
  rcases List.mem_cons.mp hy with e | e
  · rw [e]; exact .str
  · obtain ⟨x, _, q⟩ := List.mem_map.mp e
    rw [← q]; exact .int
theorem dats_le (r : WRow) : r.dats.length ≤ 3 := by
  rw [r.dats_len]
  have := r.nums_le
  omega
theorem cutd {k : Nat} {l : List Dat} {lo hi : Option Int} (h : ∀ y ∈ l, DLe k (ToD.dat y)) : ∀ y ∈ cutL l lo hi, DLe k (ToD.dat y) := dl_cut h
theorem dl_up {k : Nat} {l : List Dat} (h : ∀ y ∈ l, DLe k (ToD.dat y)) : ∀ y ∈ l, DLe (k + 1) (ToD.dat y) := fun y hy => dle_up (h y hy)
theorem br_dle (r : WRow) : ∀ y ∈ brSome r, DLe 2 y := by
  have h0 := dats_dle r
  have h1 := dl_up h0
  have hl := dats_le r
  have cl : ∀ lo hi, (cutL r.dats lo hi).length ≤ 3 := fun lo hi => Nat.le_trans cutL_len hl
  have str1 : ∀ s : Str, ∀ y ∈ [s].map (ToD.dat (α := Str)), DLe 0 (ToD.dat y) := fun s y hy => by
    rw [List.map_cons, List.map_nil, List.mem_singleton] at hy
    rw [hy]; exact .str
  have wd : ∀ s : Str, DLe 1 (ToD.dat (Tp.mk ([s].map (ToD.dat (α := Str)) ++ cutL r.dats (some 1) none))) := fun s => dl_tp (by have := cl (some 1) none; rw [List.length_append, List.length_map, List.length_singleton]; omega) (dl_app (str1 s) (dl_cut h0))
  intro y hy
  unfold brSome at hy
  rcases List.mem_append.mp hy with hy | hy
  · rcases List.mem_append.mp hy with hy | hy
    · simp only [List.cons_append, List.nil_append, List.mem_cons, List.mem_nil_iff, or_false] at hy
      rcases hy with e | e | e | e | e | e | e | e | e | e | e <;> rw [e]
      · exact dl_le (dl_list (k := 0) (by omega) h0) (by decide)
      · exact dl_le (dl_tp (k := 0) (by rw [List.length_append]; simp; omega) (dl_app h0 dl_mints)) (by decide)
      · exact dl_le (dl_tp (k := 0) (by have := cl none (some (-1)); omega) (dl_cut h0)) (by decide)
      · exact dl_le (dl_tp (k := 0) (by simp) dl_nil) (by decide)
      · exact dl_le (wd _) (by decide)
      · exact dl_le (wd _) (by decide)
      · exact .str
      · exact .non
      · exact .int
      · exact .bl
      · exact .int
    · obtain ⟨x, hx, e⟩ := List.mem_map.mp hy
      obtain ⟨s, _, e2⟩ := List.mem_map.mp hx
      rw [← e, ← e2]
      exact dl_le (wd s) (by decide)
  · simp only [List.mem_cons, List.mem_nil_iff, or_false] at hy
    rcases hy with e | e | e <;> rw [e]
    · refine dl_tp (k := 1) (by have := cl (some 1) none; rw [List.length_append, List.length_map, List.length_singleton]; omega) (dl_app (fun y hy => ?_) (dl_cut h1))
      rw [List.map_cons, List.map_nil, List.mem_singleton] at hy
      rw [hy]
      exact dl_tp (k := 0) (by simp) (dl_one dl_str)
    · refine dl_tp (k := 1) (by have := cl (some 1) none; rw [List.length_append, List.length_map, List.length_singleton]; omega) (dl_app (fun y hy => ?_) (dl_cut h1))
      rw [List.map_cons, List.map_nil, List.mem_singleton] at hy
      rw [hy]
      exact dl_list (k := 0) (by simp) (dl_one dl_str)
    · exact dl_tp (k := 1) (by simp) (dl_one dl_row)
theorem bentRow_dle (z : Pen) (g : Prog) (r : WRow) : DLe 2 (bentRowM z g r).1 := by
  unfold bentRowM
  dsimp only
  split
  · have h := pen_bd (if decide ((r.nums.length : Int) + 1 = 1) = true then z else (penTake z 3).2) (m := 21) (by decide)
    exact br_dle r _ (ix_mem h.1 (by rw [br_len]; exact h.2))
  · have hl := dats_le r
    have h1 := dl_up (dats_dle r)
    refine dl_tp (k := 1) ?_ (dl_app (dl_app (dl_cut h1) (dl_one (dl_dat (bentPart_dle _ _ _)))) (dl_cut h1))
    have c1 := cutL_len (xs := r.dats) (lo := none) (hi := some (1 + (penTake (if decide ((r.nums.length : Int) + 1 = 1) = true then z else (penTake z 3).2) ((r.nums.length : Int) + 1 - 1)).1))
    have c2 := cutL_len (xs := r.dats) (lo := some (1 + (penTake (if decide ((r.nums.length : Int) + 1 = 1) = true then z else (penTake z 3).2) ((r.nums.length : Int) + 1 - 1)).1 + 1)) (hi := none)
    rw [List.length_append, List.length_append, List.length_singleton]
    omega
theorem bentRow_fp (z : Pen) (g : Prog) (r : WRow) : Anch.fp (bentRowM z g r).2 = Anch.fp z := by
  unfold bentRowM
  dsimp only
  split
  · rw [pen_fp]; split <;> first | rfl | rw [pen_fp]
  · rw [bentPart_fp, pen_fp]; split <;> first | rfl | rw [pen_fp]
end GL
namespace GL
open PySem PySem.Spec PyProof.Rows L2
/-! ### the law's own look at a row -/
section
variable {n w m : Int} {d : Dat}
theorem lr_no {lim : TD} (h : (!d.isT || (decide (d.items.length = 0) || !(ix d.items 0).isS)) = true) : false = rowD lim d := by
  unfold rowD
  revert h
  generalize d.isT = x1
  generalize decide (d.items.length = 0) = x2
  generalize (ix d.items 0).isS = x3
  cases x1 <;> cases x2 <;> cases x3 <;> intro h <;> first | rfl | cases h
def RdOk (d : Dat) : Prop := d.isT = true ∧ d.items.length ≠ 0 ∧ (ix d.items 0).isS = true
theorem lr_yes (h : (!d.isT || (decide (d.items.length = 0) || !(ix d.items 0).isS)) = false) : RdOk d := by
  obtain ⟨h1, h2⟩ := Bool.or_eq_false_iff.mp h
  obtain ⟨h3, h4⟩ := Bool.or_eq_false_iff.mp h2
  exact ⟨by simpa using h1, of_decide_eq_false h3, by simpa using h4⟩
theorem len_dec1 : decide ((d.items.length : Int) = 1) = decide (d.items.length = 1) := decide_eq_decide.mpr (by omega)
theorem len_dec2 : decide ((d.items.length : Int) = 2) = decide (d.items.length = 2) := decide_eq_decide.mpr (by omega)
theorem len_dec3 : decide ((d.items.length : Int) = 3) = decide (d.items.length = 3) := decide_eq_decide.mpr (by omega)
theorem lr_fin (h : RdOk d) (e : decide ((ix d.items 0).toS = "end") = true) : decide ((d.items.length : Int) = 1) = rowD (lim3 n w m) d := by
  rw [rd_fin h.1 h.2.1 h.2.2 (of_decide_eq_true e)]
  exact len_dec1
theorem lr_one (h : RdOk d) (e : decide ((ix d.items 0).toS ∈ [("say" : Str), "take"]) = true) : (decide ((d.items.length : Int) = 2) && btwD (ix d.items 1) 0 (n - 1)) = rowD (lim3 n w m) d := by
  have e2 := of_decide_eq_true e
  simp only [List.mem_cons, List.mem_nil_iff, or_false] at e2
  have hp : partsM (ix d.items 0).toS = some (["sheet"] : List Str) := by
    rcases e2 with q | q <;> rw [q]
    · exact parts_say
    · exact parts_take
  rw [rd_one h.1 h.2.1 h.2.2 hp, len_dec2]
theorem lr_no3 (h : RdOk d) (e1 : decide ((ix d.items 0).toS = "end") = false) (e2 : decide ((ix d.items 0).toS ∈ [("say" : Str), "take"]) = false) (e3 : (!decide ((ix d.items 0).toS ∈ [("set" : Str), "add", "jump"]) || !decide ((d.items.length : Int) = 3)) = true) : false = rowD (lim3 n w m) d := by
  have f1 := of_decide_eq_false e1
  have f2 := of_decide_eq_false e2
  simp only [List.mem_cons, List.mem_nil_iff, or_false, not_or] at f2
  by_cases g : (ix d.items 0).toS ∈ [("set" : Str), "add", "jump"]
  · rw [decide_eq_true g] at e3
    have e4 : decide (d.items.length = 3) = false := by
      rw [← len_dec3]
      simpa using e3
    simp only [List.mem_cons, List.mem_nil_iff, or_false] at g
    rcases g with g | g | g
    · rw [rd_two (s := "number") h.1 h.2.1 h.2.2 (by rw [g]; exact parts_set) lim3_number, e4]; rfl
    · rw [rd_two (s := "sheet") h.1 h.2.1 h.2.2 (by rw [g]; exact parts_add) lim3_sheet, e4]; rfl
    · rw [rd_two (s := "row") h.1 h.2.1 h.2.2 (by rw [g]; exact parts_jump) lim3_row, e4]; rfl
  · simp only [List.mem_cons, List.mem_nil_iff, or_false, not_or] at g
    unfold rowD
    rw [parts_no g.1 g.2.1 g.2.2 f2.1 f2.2 f1]
    cases d.isT <;> cases decide (d.items.length = 0) <;> cases (ix d.items 0).isS <;> rfl
def lawTD (n w m : Int) : TD := TD.mk [("set", w), ("add", n), ("jump", m)]
theorem lawTD_set : (lawTD n w m).get? "set" = some w := by
  unfold lawTD TD.get?
  simp [List.find?_cons]
theorem lawTD_add : (lawTD n w m).get? "add" = some n := by
  have d1 : decide (("set" : Str) = "add") = false := by decide +kernel
  unfold lawTD TD.get?
  simp [List.find?_cons, d1]
theorem lawTD_jump : (lawTD n w m).get? "jump" = some m := by
  have d1 : decide (("set" : Str) = "jump") = false := by decide +kernel
  have d2 : decide (("add" : Str) = "jump") = false := by decide +kernel
  unfold lawTD TD.get?
  simp [List.find?_cons, d1, d2]
theorem lr_three (e3 : (!decide ((ix d.items 0).toS ∈ [("set" : Str), "add", "jump"]) || !decide ((d.items.length : Int) = 3)) = false) : (ix d.items 0).toS ∈ [("set" : Str), "add", "jump"] ∧ d.items.length = 3 := by
  obtain ⟨h1, h2⟩ := Bool.or_eq_false_iff.mp e3
  have h3 : decide ((ix d.items 0).toS ∈ [("set" : Str), "add", "jump"]) = true := by
    cases q : decide ((ix d.items 0).toS ∈ [("set" : Str), "add", "jump"]) with
    | true => rfl
    | false => rw [q] at h1; cases h1
  have h4 : decide ((d.items.length : Int) = 3) = true := by simpa using h2
  exact ⟨of_decide_eq_true h3, by have := of_decide_eq_true h4; omega⟩
theorem lr_key (e3 : (!decide ((ix d.items 0).toS ∈ [("set" : Str), "add", "jump"]) || !decide ((d.items.length : Int) = 3)) = false) : (lawTD n w m).get? (ix d.items 0).toS = some (((lawTD n w m).get? (ix d.items 0).toS).getD 0) := by
  have g := (lr_three e3).1
  simp only [List.mem_cons, List.mem_nil_iff, or_false] at g
  rcases g with g | g | g <;> rw [g]
  · rw [lawTD_set]; rfl
  · rw [lawTD_add]; rfl
  · rw [lawTD_jump]; rfl
theorem lr_two (h : RdOk d) (e3 : (!decide ((ix d.items 0).toS ∈ [("set" : Str), "add", "jump"]) || !decide ((d.items.length : Int) = 3)) = false) : (btwD (ix d.items 1) 0 (n - 1) && btwD (ix d.items 2) 0 (((lawTD n w m).get? (ix d.items 0).toS).getD 0 - 1)) = rowD (lim3 n w m) d := by
  obtain ⟨g, hl⟩ := lr_three e3
  simp only [List.mem_cons, List.mem_nil_iff, or_false] at g
  rcases g with g | g | g
  · rw [rd_two (s := "number") h.1 h.2.1 h.2.2 (by rw [g]; exact parts_set) lim3_number, decide_eq_true hl, g, lawTD_set]; rfl
  · rw [rd_two (s := "sheet") h.1 h.2.1 h.2.2 (by rw [g]; exact parts_add) lim3_sheet, decide_eq_true hl, g, lawTD_add]; rfl
  · rw [rd_two (s := "row") h.1 h.2.1 h.2.2 (by rw [g]; exact parts_jump) lim3_row, decide_eq_true hl, g, lawTD_jump]; rfl
/-! ### at a program -/
theorem pg_no0 (h : (!d.isT || (!decide ((d.items.length : Int) = 3) || !btwD (ix d.items 0) 1 12)) = true) : false = progD d := by
  rw [len_dec3] at h
  unfold progD
  revert h
  generalize d.isT = x1
  generalize decide (d.items.length = 3) = x2
  generalize btwD (ix d.items 0) 1 12 = x3
  cases x1 <;> cases x2 <;> cases x3 <;> intro h <;> first | rfl | cases h
theorem pg_yes0 (h : (!d.isT || (!decide ((d.items.length : Int) = 3) || !btwD (ix d.items 0) 1 12)) = false) : d.isT = true ∧ d.items.length = 3 ∧ btwD (ix d.items 0) 1 12 = true := by
  rw [len_dec3] at h
  obtain ⟨h1, h2⟩ := Bool.or_eq_false_iff.mp h
  obtain ⟨h3, h4⟩ := Bool.or_eq_false_iff.mp h2
  exact ⟨by simpa using h1, by simpa using h3, by simpa using h4⟩
theorem pg_no1 (h : (!btwD (ix d.items 1) 2 100 || !(ix d.items 2).isT) = true) : false = progD d := by
  unfold progD
  revert h
  generalize d.isT = x1
  generalize decide (d.items.length = 3) = x2
  generalize btwD (ix d.items 0) 1 12 = x3
  generalize btwD (ix d.items 1) 2 100 = x4
  generalize (ix d.items 2).isT = x5
  cases x1 <;> cases x2 <;> cases x3 <;> cases x4 <;> cases x5 <;> intro h <;> first | rfl | cases h
theorem pg_yes1 (h : (!btwD (ix d.items 1) 2 100 || !(ix d.items 2).isT) = false) : btwD (ix d.items 1) 2 100 = true ∧ (ix d.items 2).isT = true := by
  obtain ⟨h1, h2⟩ := Bool.or_eq_false_iff.mp h
  exact ⟨by simpa using h1, by simpa using h2⟩
theorem btw_isInt {x : Dat} {lo hi : Int} (h : btwD x lo hi = true) : x.isInt = true := by
  unfold btwD at h
  exact (Bool.and_eq_true_iff.mp h).1
theorem pg_end {b : Bool} (h0 : d.isT = true ∧ d.items.length = 3 ∧ btwD (ix d.items 0) 1 12 = true) (h1 : btwD (ix d.items 1) 2 100 = true ∧ (ix d.items 2).isT = true)
    (hb : b = ((decide (1 ≤ ((ix d.items 2).items.length : Int)) && decide (((ix d.items 2).items.length : Int) ≤ 20)) && (ix d.items 2).items.all (rowD (lim3 (ix d.items 0).toI (ix d.items 1).toI (ix d.items 2).items.length)))) : b = progD d := by
  unfold progD
  rw [h0.1, decide_eq_true h0.2.1, h0.2.2, h1.1, h1.2, hb]
  have e1 : decide (1 ≤ ((ix d.items 2).items.length : Int)) = decide (1 ≤ (ix d.items 2).items.length) := decide_eq_decide.mpr (by omega)
  have e2 : decide (((ix d.items 2).items.length : Int) ≤ 20) = decide ((ix d.items 2).items.length ≤ 20) := decide_eq_decide.mpr (by omega)
  rw [e1, e2, Bool.and_assoc]
  rfl
theorem ld_no0 (h : (!d.isT || (!decide ((d.items.length : Int) = 3) || !(ix d.items 2).isT)) = true) : false = progD d := by
  rw [len_dec3] at h
  unfold progD
  revert h
  generalize d.isT = x1
  generalize decide (d.items.length = 3) = x2
  generalize btwD (ix d.items 0) 1 12 = x3
  generalize btwD (ix d.items 1) 2 100 = x4
  generalize (ix d.items 2).isT = x5
  cases x1 <;> cases x2 <;> cases x3 <;> cases x4 <;> cases x5 <;> intro h <;> first | rfl | cases h
theorem ld_yes0 (h : (!d.isT || (!decide ((d.items.length : Int) = 3) || !(ix d.items 2).isT)) = false) : d.isT = true ∧ d.items.length = 3 ∧ (ix d.items 2).isT = true := by
  rw [len_dec3] at h
  obtain ⟨h1, h2⟩ := Bool.or_eq_false_iff.mp h
  obtain ⟨h3, h4⟩ := Bool.or_eq_false_iff.mp h2
  exact ⟨by simpa using h1, by simpa using h3, by simpa using h4⟩
theorem btw_wide {x : Dat} {lo hi lo' hi' : Int} (h : btwD x lo hi = true) (h1 : lo' ≤ lo) (h2 : hi ≤ hi') : btwD x lo' hi' = true := by
  unfold btwD at h ⊢
  obtain ⟨a, b⟩ := Bool.and_eq_true_iff.mp h
  obtain ⟨b, c⟩ := Bool.and_eq_true_iff.mp b
  have b := of_decide_eq_true b
  have c := of_decide_eq_true c
  rw [a, decide_eq_true (by omega), decide_eq_true (by omega)]
  rfl
theorem ld_no1 (h : (!btwD (ix d.items 0) 0 (13 - 1) || !btwD (ix d.items 1) 0 (101 - 1)) = true) : false = progD d := by
  unfold progD
  cases e1 : btwD (ix d.items 0) 1 12 with
  | false => cases d.isT <;> cases decide (d.items.length = 3) <;> rfl
  | true =>
    rw [btw_wide (lo' := 0) (hi' := 13 - 1) e1 (by decide) (by decide)] at h
    cases e2 : btwD (ix d.items 1) 2 100 with
    | false => cases d.isT <;> cases decide (d.items.length = 3) <;> rfl
    | true =>
      rw [btw_wide (lo' := 0) (hi' := 101 - 1) e2 (by decide) (by decide)] at h
      cases h
theorem ld_yes1 (h : (!btwD (ix d.items 0) 0 (13 - 1) || !btwD (ix d.items 1) 0 (101 - 1)) = false) : btwD (ix d.items 0) 0 12 = true ∧ btwD (ix d.items 1) 0 100 = true := by
  obtain ⟨h1, h2⟩ := Bool.or_eq_false_iff.mp h
  exact ⟨by simpa using h1, by simpa using h2⟩
theorem btw_low {x : Dat} {k hi : Int} (h : btwD x 0 hi = true) (hk : 0 ≤ k) : btwD x k hi = !decide (x.toI < k) := by
  unfold btwD at h ⊢
  obtain ⟨a, b⟩ := Bool.and_eq_true_iff.mp h
  obtain ⟨b, c⟩ := Bool.and_eq_true_iff.mp b
  rw [a, c]
  by_cases q : x.toI < k
  · rw [decide_eq_true q, decide_eq_false (by omega)]; rfl
  · rw [decide_eq_false q, decide_eq_true (by omega)]; rfl
theorem ld_end {b : Bool} (h0 : d.isT = true ∧ d.items.length = 3 ∧ (ix d.items 2).isT = true) (h1 : btwD (ix d.items 0) 0 12 = true ∧ btwD (ix d.items 1) 0 100 = true) (h2 : (decide ((ix d.items 0).toI < 1) || (decide ((ix d.items 1).toI < 2) || !(decide (1 ≤ ((ix d.items 2).items.length : Int)) && decide (((ix d.items 2).items.length : Int) ≤ 20)))) = false)
    (hb : b = (ix d.items 2).items.all (rowD (lim3 (ix d.items 0).toI (ix d.items 1).toI (ix d.items 2).items.length))) : b = progD d := by
  obtain ⟨g1, g2⟩ := Bool.or_eq_false_iff.mp h2
  obtain ⟨g3, g4⟩ := Bool.or_eq_false_iff.mp g2
  refine pg_end ⟨h0.1, h0.2.1, by rw [btw_low h1.1 (by decide), g1]; rfl⟩ ⟨by rw [btw_low h1.2 (by decide), g3]; rfl, h0.2.2⟩ ?_
  have g5 : (decide (1 ≤ ((ix d.items 2).items.length : Int)) && decide (((ix d.items 2).items.length : Int) ≤ 20)) = true := by simpa using g4
  rw [g5, hb]
  rfl
theorem ld_no2 (h1 : btwD (ix d.items 0) 0 12 = true ∧ btwD (ix d.items 1) 0 100 = true) (h2 : (decide ((ix d.items 0).toI < 1) || (decide ((ix d.items 1).toI < 2) || !(decide (1 ≤ ((ix d.items 2).items.length : Int)) && decide (((ix d.items 2).items.length : Int) ≤ 20)))) = true) : false = progD d := by
  have e1 : decide (1 ≤ ((ix d.items 2).items.length : Int)) = decide (1 ≤ (ix d.items 2).items.length) := decide_eq_decide.mpr (by omega)
  have e2 : decide (((ix d.items 2).items.length : Int) ≤ 20) = decide ((ix d.items 2).items.length ≤ 20) := decide_eq_decide.mpr (by omega)
  rw [e1, e2] at h2
  unfold progD
  rw [btw_low h1.1 (by decide), btw_low h1.2 (by decide)]
  revert h2
  generalize d.isT = x1
  generalize decide (d.items.length = 3) = x2
  generalize decide ((ix d.items 0).toI < 1) = x3
  generalize decide ((ix d.items 1).toI < 2) = x4
  generalize (ix d.items 2).isT = x5
  generalize decide (1 ≤ (ix d.items 2).items.length) = x6
  generalize decide ((ix d.items 2).items.length ≤ 20) = x7
  cases x1 <;> cases x2 <;> cases x3 <;> cases x4 <;> cases x5 <;> cases x6 <;> cases x7 <;> intro h <;> first | rfl | cases h
end
end GL
namespace GL
open PySem PySem.Spec PyProof.Rows L2
theorem word_cases (r : WRow) : r.word = "set" ∨ r.word = "add" ∨ r.word = "jump" ∨ r.word = "say" ∨ r.word = "take" ∨ r.word = "end" := by
  cases r
  · exact .inl rfl
  · exact .inr (.inl rfl)
  · exact .inr (.inr (.inl rfl))
  · exact .inr (.inr (.inr (.inl rfl)))
  · exact .inr (.inr (.inr (.inr (.inl rfl))))
  · exact .inr (.inr (.inr (.inr (.inr rfl))))
theorem log_small {x : Int} (h : 0 ≤ x ∧ x < 1024) : x.natAbs.log2 < 1920 := Nat.lt_trans (PySem.Flt.log2_lt_of (by decide : 0 < 10) (by show x.natAbs < 1024; omega)) (by decide)
theorem rowV_num {g : Prog} {r : WRow} (hg : ProgOk g) (h : RowV g.a g.b g.c.l.length r) : ∀ x ∈ r.nums, 0 ≤ x ∧ x < 1024 := by
  have := hg.n1
  have := hg.w1
  have := hg.m1
  intro x hx
  cases r with
  | set p v =>
    obtain ⟨h1, h2⟩ := h
    simp only [WRow.nums, List.mem_cons, List.mem_nil_iff, or_false] at hx
    rcases hx with e | e <;> rw [e] <;> omega
  | add p v =>
    obtain ⟨h1, h2⟩ := h
    simp only [WRow.nums, List.mem_cons, List.mem_nil_iff, or_false] at hx
    rcases hx with e | e <;> rw [e] <;> omega
  | jump p v =>
    obtain ⟨h1, h2⟩ := h
    simp only [WRow.nums, List.mem_cons, List.mem_nil_iff, or_false] at hx
    rcases hx with e | e <;> rw [e] <;> omega
  | say p =>
    obtain ⟨h1, h2⟩ := h
    simp only [WRow.nums, List.mem_cons, List.mem_nil_iff, or_false] at hx
    rw [hx]; omega
  | take p =>
    obtain ⟨h1, h2⟩ := h
    simp only [WRow.nums, List.mem_cons, List.mem_nil_iff, or_false] at hx
    rw [hx]; omega
  | fin => simp [WRow.nums] at hx
theorem dl_mrows {k : Nat} {xs : List WRow} : ∀ y ∈ xs.map (ToD.dat (α := WRow)), DLe (k + 1) (ToD.dat y) := fun y hy => by
  obtain ⟨x, _, e⟩ := List.mem_map.mp hy
  rw [← e]
  exact dl_row
end GL
namespace GL
open PySem PySem.Spec PyProof.Rows L2
theorem dl_mflat2 {m : Nat} {s : Str} : ∀ y ∈ (List.replicate m [Tp.mk [s]]).flatten.map (ToD.dat (α := Tp Str)), DLe 2 (ToD.dat y) := fun y hy => by
  obtain ⟨x, hx, e⟩ := List.mem_map.mp hy
  obtain ⟨l, hl, hx2⟩ := List.mem_flatten.mp hx
  rw [List.eq_of_mem_replicate hl, List.mem_singleton] at hx2
  rw [← e, hx2]
  exact dl_le (dl_tp (k := 0) (by simp) (dl_one dl_str)) (by decide)
end GL

/-! k52: programs written and read: mirrors, and what is written is read. -/
namespace GL
open PySem PySem.Spec PyProof.Rows L2
/-! what split and join do -/
theorem spl_len {S : List Nat} : ∀ (l : List Nat) (k : Nat) (acc : List Nat), ∀ p ∈ TL.spl S k acc l, p.length ≤ acc.length + l.length
  | [], k, acc, p, h => by
    rw [TL.spl_nil] at h
    rw [List.mem_singleton.mp h]
    simp
  | c :: r, 0, acc, p, h => by
    unfold TL.spl at h
    split at h
    · rcases List.mem_cons.mp h with rfl | h
      · simp
      · have := spl_len r _ _ p h
        simp at this ⊢
        omega
    · have := spl_len r _ _ p h
      simp at this ⊢
      omega
  | c :: r, k + 1, acc, p, h => by
    unfold TL.spl at h
    have := spl_len r _ _ p h
    simp at this ⊢
    omega
def sSp : Str := ⟨#[32]⟩
def sNl : Str := ⟨#[10]⟩
theorem sp_eq : (" " : Str) = ⟨#[32]⟩ := by decide +kernel
theorem nl_eq : ("\n" : Str) = ⟨#[10]⟩ := by decide +kernel
theorem tl_len (x : Str) : (TL.tl x).length = x.length := Array.length_toList
theorem split_lens {a : Str} {c : Nat} (hc : c < 256) : ∀ x ∈ Txt.split a ⟨#[c]⟩, x.length ≤ a.length := fun x hx => by
  have h := TL.split_spl a ⟨#[c]⟩ (by show [c] ≠ []; simp) (TL.kind_ok (by simp [hc]))
  have h2 : TL.tl x ∈ TL.spl [c] 0 [] (TL.tl a) := by
    rw [show [c] = TL.tl ⟨#[c]⟩ from rfl, ← h]
    exact List.mem_map.mpr ⟨x, hx, rfl⟩
  have := spl_len _ _ _ _ h2
  rw [tl_len, tl_len] at this
  simpa using this
theorem joinL_mem {s : List Nat} {c : Nat} : ∀ {ps : List (List Nat)}, c ∈ TL.joinL s ps → c ∈ s ∨ ∃ p ∈ ps, c ∈ p
  | [], h => by cases h
  | [p], h => .inr ⟨p, List.mem_singleton.mpr rfl, h⟩
  | p :: q :: r, h => by
    have h : c ∈ p ++ (s ++ TL.joinL s (q :: r)) := h
    rcases List.mem_append.mp h with h | h
    · exact .inr ⟨p, List.mem_cons_self .., h⟩
    · rcases List.mem_append.mp h with h | h
      · exact .inl h
      · rcases joinL_mem h with h | ⟨p', h1, h2⟩
        · exact .inl h
        · exact .inr ⟨p', List.mem_cons_of_mem _ h1, h2⟩
theorem tl_joinT (y : Str) (ps : List Str) : TL.tl (Txt.join y ps) = TL.joinL (TL.tl y) (ps.map TL.tl) := by rw [TL.join_eq, TL.tl_join]
theorem join_mem {y : Str} {c : Nat} {ps : List Str} (h : c ∈ TL.tl (Txt.join y ps)) : c ∈ TL.tl y ∨ ∃ p ∈ ps, c ∈ TL.tl p := by
  rw [tl_joinT] at h
  rcases joinL_mem h with h | ⟨p, h1, h2⟩
  · exact .inl h
  · obtain ⟨q, hq, rfl⟩ := List.mem_map.mp h1
    exact .inr ⟨q, hq, h2⟩
theorem joinL_len {s : List Nat} {m : Nat} : ∀ {ps : List (List Nat)}, (∀ p ∈ ps, p.length ≤ m) → (TL.joinL s ps).length ≤ ps.length * (m + s.length)
  | [], _ => by simp [TL.joinL]
  | [p], h => by
    have := h p (List.mem_singleton.mpr rfl)
    show p.length ≤ 1 * _
    omega
  | p :: q :: r, h => by
    have h1 := h p (List.mem_cons_self ..)
    have h2 := joinL_len (s := s) (m := m) (ps := q :: r) fun x hx => h x (List.mem_cons_of_mem _ hx)
    show (p ++ (s ++ TL.joinL s (q :: r))).length ≤ _
    rw [List.length_append, List.length_append]
    have : (p :: q :: r).length * (m + s.length) = (m + s.length) + (q :: r).length * (m + s.length) := by rw [List.length_cons, Nat.succ_mul]; omega
    omega
theorem join_len {y : Str} {m : Nat} {ps : List Str} (h : ∀ p ∈ ps, p.length ≤ m) : (Txt.join y ps).length ≤ ps.length * (m + y.length) := by
  have := joinL_len (s := TL.tl y) (m := m) (ps := ps.map TL.tl) fun p hp => by
    obtain ⟨q, hq, rfl⟩ := List.mem_map.mp hp
    rw [tl_len]; exact h q hq
  rw [← tl_joinT, tl_len, tl_len, List.length_map] at this
  exact this
theorem sum_lens {m : Nat} : ∀ {ps : List Str}, (∀ p ∈ ps, p.length ≤ m) → (ps.map (·.length)).sum ≤ ps.length * m
  | [], _ => by simp
  | p :: r, h => by
    have h1 := h p (List.mem_cons_self ..)
    have h2 := sum_lens (m := m) (ps := r) fun x hx => h x (List.mem_cons_of_mem _ hx)
    rw [List.map_cons, List.sum_cons, List.length_cons, Nat.succ_mul]
    omega
/-! numbers -/
def figs : List Nat := [48, 49, 50, 51, 52, 53, 54, 55, 56, 57]
theorem figs_eq : ("0123456789" : Str) = SX.S figs := by decide +kernel
theorem inS_fig (c : Nat) : inS ⟨#[c]⟩ "0123456789" = decide (c ∈ figs) := by
  rw [figs_eq]
  exact SX.in_one figs c
theorem fig_mem {c : Nat} : c ∈ figs ↔ 48 ≤ c ∧ c ≤ 57 := by
  unfold figs
  simp only [List.mem_cons, List.not_mem_nil, or_false]
  omega
def nsB (_ : Unit) (x : Str) : Fl Unit Dat := if (!inS x "0123456789") = true then .rt .non else .nx ()
@[irreducible] def numR (word : Str) : Dat := forL nsB (fun _ => .int ((intText? word).getD 0)) (signs word) ()
def numC (word : Str) : Bool := !(decide (1 ≤ (word.length : Int)) && decide ((word.length : Int) ≤ 4)) || (decide (ix (signs word) 0 = "0") && decide ((word.length : Int) > 1))
@[irreducible] def numD (word : Str) : Dat := if numC word = true then .non else numR word
theorem forL_ns {word : Str} (k : Unit → Dat) : ∀ xs : List Str, forL nsB k xs () = if xs.all (fun x => inS x "0123456789") = true then k () else .non
  | [] => rfl
  | x :: xs => by
    rw [forL, List.all_cons]
    unfold nsB
    cases h : inS x "0123456789" with
    | true => exact forL_ns (word := word) k xs
    | false => rfl
theorem num_sum (word : Str) : (numD word).isN = true ∨ (numD word).isInt = true := by
  unfold numD
  split
  · exact .inl rfl
  · unfold numR
    rw [forL_ns (word := word)]
    split
    · exact .inr rfl
    · exact .inl rfl
theorem sign_all {word : Str} (h : ∀ x ∈ signs word, inS x "0123456789" = true) : NumText.AllDigits (TL.tl word) := fun c hc => by
  have := h ⟨#[c]⟩ (List.mem_map.mpr ⟨c, hc, rfl⟩)
  rw [inS_fig] at this
  exact fig_mem.mp (of_decide_eq_true this)
theorem int_some {word : Str} (h : ∀ x ∈ signs word, inS x "0123456789" = true) (h1 : 1 ≤ word.length) (h2 : word.length ≤ 4) : intText? word = some ((NumText.digitsVal (TL.tl word) : Nat) : Int) :=
  intText_digits (sign_all h) (by
    intro e
    have := tl_len word
    rw [show TL.tl word = word.cps.toList from rfl, e] at this
    simp at this
    omega) (by omega)
theorem numL_head (n : Nat) (h : 1 ≤ n) : (TL.numL n).head? ≠ some 48 := by
  induction n using Nat.strongRecOn with
  | _ n ih =>
    by_cases h9 : n < 10
    · rw [TL.numL_lt h9]
      simp
      omega
    · rw [TL.numL_step (by omega)]
      have := ih (n / 10) (by omega) (by omega)
      cases e : TL.numL (n / 10) with
      | nil => exact absurd e (TL.numL_ne _)
      | cons a l => rw [e] at this; exact this
def numT (n : Int) : Str := Str.ofString (toString n)
theorem numT_nat {n : Int} (h : 0 ≤ n) : TL.tl (numT n) = TL.numL n.toNat := by
  have := TL.tl_num n.toNat
  rw [Int.toNat_of_nonneg h] at this
  exact this
theorem numT_len {n : Int} (h : 0 ≤ n) (h1 : n < 10000) : 1 ≤ (numT n).length ∧ (numT n).length ≤ 4 := by
  rw [← tl_len, numT_nat h]
  refine ⟨?_, TL.numL_len (by decide) (by omega)⟩
  exact List.length_pos_iff.mpr (TL.numL_ne _)
theorem num_num {n : Int} (h : 0 ≤ n) (h1 : n < 10000) : numD (numT n) = .int n := by
  obtain ⟨l1, l2⟩ := numT_len h h1
  have hc : numC (numT n) = false := by
    unfold numC
    rw [decide_eq_true (show (1 : Int) ≤ ((numT n).length : Int) by omega), decide_eq_true (show ((numT n).length : Int) ≤ 4 by omega)]
    show (false || _) = false
    rw [Bool.false_or]
    cases h5 : decide (((numT n).length : Int) > 1) with
    | false => simp
    | true =>
      have h5 := of_decide_eq_true h5
      rw [Bool.and_true]
      refine decide_eq_false fun e => ?_
      have hn : 1 ≤ n.toNat := by
        rcases Nat.eq_zero_or_pos n.toNat with h0 | h0
        · exfalso
          rw [← tl_len, numT_nat h, h0] at h5
          have : (TL.numL 0).length = 1 := by rw [TL.numL_lt (by decide)]; rfl
          omega
        · exact h0
      have hh := numL_head _ hn
      have e2 : ix (signs (numT n)) 0 = ⟨#[(TL.tl (numT n)).headD 0]⟩ := by
        unfold signs ix
        show ((TL.tl (numT n)).map _).getD 0 default = _
        cases e9 : TL.tl (numT n) with
        | nil => have := tl_len (numT n); rw [e9] at this; simp at this; omega
        | cons a l => rfl
      rw [e2, numT_nat h] at e
      cases e3 : TL.numL n.toNat with
      | nil => exact TL.numL_ne _ e3
      | cons a l =>
        rw [e3] at e hh
        have e4 : (⟨#[a]⟩ : Str) = ⟨#[48]⟩ := e.trans (by decide +kernel)
        have : a = 48 := by injection e4 with e4; injection e4 with e4; injection e4
        exact hh (by rw [this]; rfl)
  have hs : ∀ x ∈ signs (numT n), inS x "0123456789" = true := fun x hx => by
    obtain ⟨c, hc, rfl⟩ := List.mem_map.mp hx
    rw [inS_fig]
    refine decide_eq_true (fig_mem.mpr ?_)
    have hc : c ∈ TL.tl (numT n) := hc
    rw [numT_nat h] at hc
    exact TL.numL_digits _ _ hc
  unfold numD
  rw [hc]
  unfold numR
  rw [forL_ns (word := numT n), List.all_eq_true.mpr hs, int_some hs l1 l2, numT_nat h, TL.numL_val]
  show Dat.int ((n.toNat : Nat) : Int) = _
  rw [Int.toNat_of_nonneg h]
/-! lines -/
def splW (line : Str) : List Str := Txt.split line " "
def headC (ns : List Dat) : Bool := (!decide ((ns.length : Int) = 2)) || ns.any Dat.isN
def headC2 (ns : List Dat) : Bool := (!(decide (1 ≤ (ix ns 0).toI) && decide ((ix ns 0).toI ≤ 12))) || (!(decide (2 ≤ (ix ns 1).toI) && decide ((ix ns 1).toI ≤ 100)))
@[irreducible] def headD (line : Str) : Dat :=
  if headC ((splW line).map numD) = true then .non else if headC2 ((splW line).map numD) = true then .non else .lst ((splW line).map numD)
def lim2 (head : List Dat) : TD := TD.mk [("sheet", (ix head 0).toI), ("number", (ix head 1).toI)]
def rwC (words : List Str) : Bool := (!(partsM (ix words 0)).isSome) || !decide ((words.length : Int) = (((partsM (ix words 0)).getD []).length : Int) + 1)
def rwB (head : List Dat) (acc : List Dat) (p : Str × Str) : Fl (List Dat) Dat :=
  if ((numD p.1).isN || decide ((numD p.1).toI ≥ ((lim2 head).get? p.2).getD ((numD p.1).toI + 1))) = true then .rt .non else .nx (acc ++ [numD p.1])
@[irreducible] def rowL (head : List Dat) (words : List Str) : Dat := forL (rwB head) (fun acc => .tup acc) ((cutL words (some 1) none).zip ((partsM (ix words 0)).getD [])) [.str (ix words 0)]
@[irreducible] def rowR (head : List Dat) (line : Str) : Dat := if rwC (splW line) = true then .non else rowL head (splW line)
/-! what is written -/
def lineM (ds : List Dat) : Str := Txt.join " " (ds.map partT)
def headL (g : Prog) : Str := lineM [.int g.a, .int g.b]
def linesM (g : Prog) : List Str := headL g :: g.c.l.map fun r => lineM r.dats
def textM (g : Prog) : Str := Txt.join "\n" (linesM g)
/-- parts of lines: short, without blanks and line feeds -/
def PtOk (d : Dat) : Prop := (partT d).length ≤ 4 ∧ 32 ∉ TL.tl (partT d) ∧ 10 ∉ TL.tl (partT d) ∧ TxtOk d
theorem pt_num {n : Int} (h : 0 ≤ n) (h1 : n < 10000) : PtOk (.int n) := by
  refine ⟨(numT_len h h1).2, ?_, ?_, ?_⟩
  rotate_left 2
  · show n.natAbs.log2 < 1920
    by_cases h0 : n.natAbs = 0
    · rw [h0]; decide
    · refine (Nat.log2_lt h0).mpr (Nat.lt_of_lt_of_le (m := 2 ^ 14) ?_ (Nat.pow_le_pow_right (by decide) (by decide)))
      show n.natAbs < 16384
      omega
  · show 32 ∉ TL.tl (numT n)
    rw [numT_nat h]; exact TL.numL_free (by omega)
  · show 10 ∉ TL.tl (numT n)
    rw [numT_nat h]; exact TL.numL_free (by omega)
theorem pt_word (r : WRow) : PtOk (.str r.word) := by
  unfold PtOk partT
  dsimp only
  rcases word_cases r with e | e | e | e | e | e <;> rw [e] <;> exact ⟨by decide +kernel, by decide +kernel, by decide +kernel, True.intro⟩
theorem rowV_pt {g : Prog} (gk : ProgOk g) {r : WRow} (h : r ∈ g.c.l) : ∀ d ∈ r.dats, PtOk d := by
  have rv := gk.rows r h
  have := gk.n1; have := gk.w1; have := gk.m1
  intro d hd
  unfold WRow.dats at hd
  rcases List.mem_cons.mp hd with rfl | hd
  · exact pt_word r
  · obtain ⟨n, hn, rfl⟩ := List.mem_map.mp hd
    have hb : 0 ≤ n ∧ n < 10000 := by
      cases r <;> simp only [WRow.nums, List.mem_cons, List.not_mem_nil, or_false] at hn <;> simp only [RowV] at rv <;> (try (rcases hn with rfl | rfl <;> omega)) <;> (try (subst hn; omega))
    exact pt_num hb.1 hb.2
theorem head_pt {g : Prog} (gk : ProgOk g) : ∀ d ∈ ([.int g.a, .int g.b] : List Dat), PtOk d := by
  have := gk.n0; have := gk.n1; have := gk.w0; have := gk.w1
  intro d hd
  rcases List.mem_cons.mp hd with rfl | hd
  · exact pt_num (by omega) (by omega)
  · rw [List.mem_singleton.mp hd]; exact pt_num (by omega) (by omega)
theorem spl_line {ds : List Dat} (hne : ds ≠ []) (h : ∀ d ∈ ds, PtOk d) : splW (lineM ds) = ds.map partT := by
  unfold splW lineM
  rw [sp_eq]
  exact TL.split_join (s := 32) (S := []) rfl (by simp) (by simpa using hne) fun p hp => by
    obtain ⟨d, hd, rfl⟩ := List.mem_map.mp hp
    exact (h d hd).2.1
theorem line_len {ds : List Dat} (h : ∀ d ∈ ds, PtOk d) : (lineM ds).length ≤ ds.length * 5 := by
  have := join_len (y := " ") (m := 4) (ps := ds.map partT) fun p hp => by
    obtain ⟨d, hd, rfl⟩ := List.mem_map.mp hp
    exact (h d hd).1
  rw [List.length_map, sp_eq] at this
  unfold lineM
  rw [sp_eq]
  exact this
theorem line_nl {ds : List Dat} (h : ∀ d ∈ ds, PtOk d) : 10 ∉ TL.tl (lineM ds) := fun hm => by
  unfold lineM at hm
  rcases join_mem hm with hm | ⟨p, hp, hm⟩
  · rw [sp_eq] at hm
    exact absurd (show (10 : Nat) ∈ [32] from hm) (by decide)
  · obtain ⟨d, hd, rfl⟩ := List.mem_map.mp hp
    exact (h d hd).2.2.1 hm
theorem dats_ne (r : WRow) : r.dats ≠ [] := by unfold WRow.dats; simp
theorem lines_ok {g : Prog} (gk : ProgOk g) : ∀ l ∈ linesM g, l.length ≤ 15 ∧ 10 ∉ TL.tl l := fun l hl => by
  unfold linesM at hl
  rcases List.mem_cons.mp hl with rfl | hl
  · exact ⟨Nat.le_trans (line_len (head_pt gk)) (by simp), line_nl (head_pt gk)⟩
  · obtain ⟨r, hr, rfl⟩ := List.mem_map.mp hl
    have := dats_le r
    exact ⟨Nat.le_trans (line_len (rowV_pt gk hr)) (by omega), line_nl (rowV_pt gk hr)⟩
theorem text_split {g : Prog} (gk : ProgOk g) : Txt.split (textM g) "\n" = linesM g := by
  unfold textM
  rw [nl_eq]
  exact TL.split_join (s := 10) (S := []) rfl (by simp) (by unfold linesM; simp) fun p hp => (lines_ok gk p hp).2
theorem lines_len {g : Prog} (gk : ProgOk g) : (linesM g).length = g.c.l.length + 1 := by unfold linesM; simp
theorem text_len {g : Prog} (gk : ProgOk g) : (textM g).length ≤ 400 := by
  have := join_len (y := "\n") (m := 15) (ps := linesM g) fun p hp => (lines_ok gk p hp).1
  rw [nl_eq, lines_len gk] at this
  unfold textM
  rw [nl_eq]
  have h2 := gk.m1
  have : (Txt.join ⟨#[10]⟩ (linesM g)).length ≤ (g.c.l.length + 1) * 16 := this
  omega
theorem head_read {g : Prog} (gk : ProgOk g) : headD (headL g) = .lst [.int g.a, .int g.b] := by
  have := gk.n0; have := gk.n1; have := gk.w0; have := gk.w1
  have e : (splW (headL g)).map numD = [.int g.a, .int g.b] := by
    unfold headL
    rw [spl_line (by simp) (head_pt gk)]
    show [numD (numT g.a), numD (numT g.b)] = _
    rw [num_num (by omega) (by omega), num_num (by omega) (by omega)]
  unfold headD
  rw [e]
  have c1 : headC [.int g.a, .int g.b] = false := rfl
  have c2 : headC2 [.int g.a, .int g.b] = false := by
    show ((!(decide (1 ≤ g.a) && decide (g.a ≤ 12))) || (!(decide (2 ≤ g.b) && decide (g.b ≤ 100)))) = false
    rw [decide_eq_true (gk.n0), decide_eq_true gk.n1, decide_eq_true gk.w0, decide_eq_true gk.w1]
    rfl
  rw [c1, c2]
  rfl
theorem lim2_sheet {a b : Int} : (lim2 [.int a, .int b]).get? "sheet" = some a := by
  unfold lim2 TD.get?
  simp
  rfl
theorem rwB_ok {head acc : List Dat} {n lim : Int} {s : Str} (h0 : 0 ≤ n) (h1 : n < 10000) (h2 : n < ((lim2 head).get? s).getD (n + 1)) : rwB head acc (numT n, s) = .nx (acc ++ [.int n]) := by
  unfold rwB
  dsimp only
  rw [num_num h0 h1]
  have : ((Dat.int n).isN || decide ((Dat.int n).toI ≥ ((lim2 head).get? s).getD ((Dat.int n).toI + 1))) = false := by
    show (false || decide (n ≥ _)) = false
    rw [Bool.false_or]
    exact decide_eq_false (by show ¬ (n ≥ ((lim2 head).get? s).getD (n + 1)); omega)
  rw [this]
  rfl
theorem lim_sheet (a b n : Int) (h : n < a) : n < ((lim2 [.int a, .int b]).get? "sheet").getD (n + 1) := by
  have : (lim2 [.int a, .int b]).get? "sheet" = some a := by unfold lim2 TD.get?; simp [ix, Dat.toI]
  rw [this]; exact h
theorem lim_number (a b n : Int) (h : n < b) : n < ((lim2 [.int a, .int b]).get? "number").getD (n + 1) := by
  have : (lim2 [.int a, .int b]).get? "number" = some b := by unfold lim2 TD.get?; simp [ix, Dat.toI, show ¬ ("sheet" : Str) = "number" by decide +kernel]
  rw [this]; exact h
theorem lim_row (a b n : Int) : n < ((lim2 [.int a, .int b]).get? "row").getD (n + 1) := by
  have : (lim2 [.int a, .int b]).get? "row" = none := by unfold lim2 TD.get?; simp [show ¬ ("sheet" : Str) = "row" by decide +kernel, show ¬ ("number" : Str) = "row" by decide +kernel]
  rw [this]; show n < n + 1; omega
theorem cut1 {α : Type} (a : α) (l : List α) : cutL (a :: l) (some 1) none = l := by rw [cut_tl]; rfl
theorem row_read {g : Prog} (gk : ProgOk g) {r : WRow} (h : r ∈ g.c.l) : rowR [.int g.a, .int g.b] (lineM r.dats) = .tup r.dats := by
  have rv := gk.rows r h
  have b1 := gk.n1; have b2 := gk.w1; have b3 := gk.m1
  have e := spl_line (dats_ne r) (rowV_pt gk h)
  unfold rowR
  rw [e]
  have e0 : ix (r.dats.map partT) 0 = r.word := rfl
  have key : ∀ (l : List Str), partsM r.word = some l → l.length = r.nums.length → (∀ q ∈ r.nums.zip l, 0 ≤ q.1 ∧ q.1 < 10000 ∧ q.1 < ((lim2 [.int g.a, .int g.b]).get? q.2).getD (q.1 + 1)) →
      (if rwC (r.dats.map partT) = true then Dat.non else rowL [.int g.a, .int g.b] (r.dats.map partT)) = .tup r.dats := by
    intro l hl hn hq
    have c : rwC (r.dats.map partT) = false := by
      unfold rwC
      rw [e0, hl]
      have : decide (((r.dats.map partT).length : Int) = (((some l).getD []).length : Int) + 1) = true := decide_eq_true (by
        rw [List.length_map, r.dats_len]
        show ((r.nums.length + 1 : Nat) : Int) = (l.length : Int) + 1
        omega)
      rw [this]
      rfl
    rw [c]
    unfold rowL
    rw [e0, hl]
    show (forL (rwB _) (fun acc => Dat.tup acc) ((cutL (partT (.str r.word) :: (r.nums.map Dat.int).map partT) (some 1) none).zip l) [.str r.word]) = _
    rw [cut1, List.map_map]
    have gen : ∀ (ns : List Int) (l : List Str) (acc : List Dat), l.length = ns.length → (∀ q ∈ ns.zip l, 0 ≤ q.1 ∧ q.1 < 10000 ∧ q.1 < ((lim2 [.int g.a, .int g.b]).get? q.2).getD (q.1 + 1)) →
        forL (rwB [.int g.a, .int g.b]) (fun acc => Dat.tup acc) ((ns.map (partT ∘ Dat.int)).zip l) acc = .tup (acc ++ ns.map Dat.int) := by
      intro ns
      induction ns with
      | nil => intro l acc _ _; show Dat.tup acc = _; simp
      | cons n ns ih =>
        intro l acc hl hq
        cases l with
        | nil => cases hl
        | cons s l =>
          have h1 := hq (n, s) (by simp)
          show forL (rwB [.int g.a, .int g.b]) (fun acc => Dat.tup acc) ((numT n, s) :: (ns.map (partT ∘ Dat.int)).zip l) acc = _
          rw [forL, rwB_ok (lim := 0) h1.1 h1.2.1 h1.2.2]
          dsimp only
          rw [ih l _ (by simpa using hl) fun q hq' => hq q (by simp [hq'])]
          simp
    exact gen _ _ _ hn hq
  cases r with
  | set p v =>
    obtain ⟨⟨p0, p1⟩, v0, v1⟩ := rv
    refine key _ parts_set rfl fun q hq => ?_
    simp only [WRow.nums, List.zip_cons_cons, List.zip_nil_left, List.mem_cons, List.not_mem_nil, or_false] at hq
    rcases hq with rfl | rfl
    · exact ⟨p0, by dsimp only; omega, lim_sheet _ _ _ p1⟩
    · exact ⟨v0, by dsimp only; omega, lim_number _ _ _ v1⟩
  | add p v =>
    obtain ⟨⟨p0, p1⟩, v0, v1⟩ := rv
    refine key _ parts_add rfl fun q hq => ?_
    simp only [WRow.nums, List.zip_cons_cons, List.zip_nil_left, List.mem_cons, List.not_mem_nil, or_false] at hq
    rcases hq with rfl | rfl
    · exact ⟨p0, by dsimp only; omega, lim_sheet _ _ _ p1⟩
    · exact ⟨v0, by dsimp only; omega, lim_sheet _ _ _ v1⟩
  | jump p v =>
    obtain ⟨⟨p0, p1⟩, v0, v1⟩ := rv
    refine key _ parts_jump rfl fun q hq => ?_
    simp only [WRow.nums, List.zip_cons_cons, List.zip_nil_left, List.mem_cons, List.not_mem_nil, or_false] at hq
    rcases hq with rfl | rfl
    · exact ⟨p0, by dsimp only; omega, lim_sheet _ _ _ p1⟩
    · exact ⟨v0, by dsimp only; omega, lim_row _ _ _⟩
  | say p =>
    obtain ⟨p0, p1⟩ := rv
    refine key _ parts_say rfl fun q hq => ?_
    simp only [WRow.nums, List.zip_cons_cons, List.zip_nil_left, List.mem_cons, List.not_mem_nil, or_false] at hq
    subst hq
    exact ⟨p0, by dsimp only; omega, lim_sheet _ _ _ p1⟩
  | take p =>
    obtain ⟨p0, p1⟩ := rv
    refine key _ parts_take rfl fun q hq => ?_
    simp only [WRow.nums, List.zip_cons_cons, List.zip_nil_left, List.mem_cons, List.not_mem_nil, or_false] at hq
    subst hq
    exact ⟨p0, by dsimp only; omega, lim_sheet _ _ _ p1⟩
  | fin => exact key _ parts_end rfl fun q hq => by cases hq
/-! what is read of lines, where they write a program -/
@[irreducible] def linesD (lines : List Str) : Dat := .tup [ix (headD (ix lines 0)).items 0, ix (headD (ix lines 0)).items 1, .tup ((cutL lines (some 1) none).map (rowR (headD (ix lines 0)).items))]
theorem lines_read {g : Prog} (gk : ProgOk g) : linesD (linesM g) = ToD.dat g := by
  unfold linesD
  have e : ix (linesM g) 0 = headL g := rfl
  rw [e, head_read gk]
  show Dat.tup [.int g.a, .int g.b, .tup ((cutL (headL g :: _) (some 1) none).map (rowR [.int g.a, .int g.b]))] = _
  rw [cut1, List.map_map]
  show _ = Dat.tup [.int g.a, .int g.b, .tup (g.c.l.map ToD.dat)]
  have : g.c.l.map (rowR [Dat.int g.a, Dat.int g.b] ∘ fun r => lineM r.dats) = g.c.l.map ToD.dat := List.map_congr_left fun r hr => row_read gk hr
  rw [this]
/-! for the walks -/
theorem line_snoc {ds : List Dat} (h : ds ≠ []) (d : Dat) : lineM (ds ++ [d]) = lineM ds ++ " " ++ partT d := by
  unfold lineM
  refine TL.ext_tl ?_
  rw [TL.tl_append, TL.tl_append, tl_joinT, tl_joinT]
  induction ds with
  | nil => exact absurd rfl h
  | cons a l ih =>
    cases l with
    | nil =>
      show TL.tl (partT a) ++ (TL.tl " " ++ TL.tl (partT d)) = _
      rw [List.append_assoc]
      rfl
    | cons b l =>
      have := ih (by simp)
      show TL.tl (partT a) ++ (TL.tl " " ++ TL.joinL (TL.tl " ") (((b :: l ++ [d]).map partT).map TL.tl)) = (TL.tl (partT a) ++ (TL.tl " " ++ TL.joinL (TL.tl " ") (((b :: l).map partT).map TL.tl))) ++ _ ++ _
      rw [this]
      simp only [List.append_assoc]
theorem line_one (s : Str) : lineM [.str s] = s := by
  unfold lineM
  rw [TL.join_eq]
  rfl
theorem head_eq (g : Prog) : headL g = numT g.a ++ " " ++ numT g.b := by
  have := line_snoc (ds := [.int g.a]) (by simp) (.int g.b)
  have e : lineM [.int g.a] = numT g.a := by unfold lineM; rw [TL.join_eq]; rfl
  rw [e] at this
  exact this
def DgOk (d : Dat) : Prop := ∃ g : Prog, ProgOk g ∧ d = ToD.dat g
@[irreducible] def progTx (d : Dat) : Str := Txt.join "\n" (lineM (cutL d.items none (some 2)) :: (ix d.items 2).items.map fun r => lineM r.items)
theorem cut2 (a b c : Dat) : cutL [a, b, c] none (some 2) = [a, b] := rfl
theorem prog_tx (g : Prog) : progTx (ToD.dat g) = textM g := by
  unfold progTx textM linesM
  show Txt.join "\n" (lineM (cutL [.int g.a, .int g.b, _] none (some 2)) :: (g.c.l.map ToD.dat).map _) = _
  rw [cut2, List.map_map]
  rfl
def LnP (lines : List Str) : Prop := ∃ g : Prog, ProgOk g ∧ lines = linesM g
def TxP (text : Str) : Prop := ∃ g : Prog, ProgOk g ∧ text = textM g
def HdOk (hd : List Dat) : Prop := 2 ≤ hd.length ∧ (ix hd 0).isInt = true ∧ (ix hd 1).isInt = true
theorem ln_row {g : Prog} (gk : ProgOk g) {l : Str} (h : l ∈ cutL (linesM g) (some 1) none) : ∃ r ∈ g.c.l, l = lineM r.dats ∧ rowR [.int g.a, .int g.b] l = .tup r.dats := by
  unfold linesM at h
  rw [cut1] at h
  obtain ⟨r, hr, rfl⟩ := List.mem_map.mp h
  exact ⟨r, hr, rfl, row_read gk hr⟩
theorem rw_nx {head acc : List Dat} {p : Str × Str} (h : ((numD p.1).isN || decide ((numD p.1).toI ≥ ((lim2 head).get? p.2).getD ((numD p.1).toI + 1))) = false) : rwB head acc p = .nx (acc ++ [numD p.1]) := by
  unfold rwB
  rw [h]
  rfl
theorem rw_rt {head acc : List Dat} {p : Str × Str} (h : ((numD p.1).isN || decide ((numD p.1).toI ≥ ((lim2 head).get? p.2).getD ((numD p.1).toI + 1))) = true) : rwB head acc p = .rt .non := by
  unfold rwB
  rw [h]
  rfl
theorem num_is {w : Str} (h : (numD w).isN = false) : (numD w).isInt = true := by
  rcases num_sum w with h1 | h1
  · rw [h] at h1; cases h1
  · exact h1
end GL

/-! k52: what the walks' side goals ask. -/
namespace GL
open PySem PySem.Spec PyProof.Rows L2
theorem ns_nx {x : Str} (h : (!inS x "0123456789") = false) : nsB () x = .nx () := by unfold nsB; rw [h]; rfl
theorem ns_rt {x : Str} (h : (!inS x "0123456789") = true) : nsB () x = .rt .non := by unfold nsB; rw [h]; rfl
theorem all_snocT {α : Type} {P : α → Prop} {l : List α} {x : α} (h : ∀ y ∈ l, P y) (hx : P x) : ∀ y ∈ l ++ [x], P y := fun y hy => by
  rcases List.mem_append.mp hy with hy | hy
  · exact h y hy
  · rw [List.mem_singleton.mp hy]; exact hx
theorem num_r0 {w : Str} (h : numC w = true) : numD w = .non := by unfold numD; rw [if_pos h]
theorem num_r2 {w : Str} {y : Dat} (h : numC w = false) (e : numR w = y) : numD w = y := by unfold numD; rw [if_neg (by rw [h]; decide)]; exact e
theorem nc_no {w : Str} (h : numC w = false) : 1 ≤ w.length ∧ w.length ≤ 4 := by
  unfold numC at h
  simp only [Bool.or_eq_false_iff, Bool.not_eq_false', Bool.and_eq_true, decide_eq_true_eq] at h
  omega
theorem le_line2 {a : Nat} (h : a ≤ 900000) : a + 2 ≤ sizeLine := le_line (by omega)
theorem none_num {ws : List Str} : NoneOk (ws.map numD) := fun d hd => by
  obtain ⟨w, _, rfl⟩ := List.mem_map.mp hd
  exact num_sum w
theorem hd_two {ns : List Dat} (h : headC ns = false) : ns.length = 2 ∧ ∀ d ∈ ns, d.isN = false := by
  unfold headC at h
  rw [Bool.or_eq_false_iff] at h
  obtain ⟨h1, h2⟩ := h
  have h1 : (ns.length : Int) = 2 := by simpa using h1
  refine ⟨by omega, fun d hd => ?_⟩
  cases e : d.isN with
  | false => rfl
  | true => rw [List.any_eq_true.mpr ⟨d, hd, e⟩] at h2; cases h2
theorem hd_int {line : Str} {ns : List Dat} {n : Int} (e : ns = (splW line).map numD) (h : headC ns = false) (hn : 0 ≤ n ∧ n < 2) : (ix ns n).isInt = true := by
  obtain ⟨h1, h2⟩ := hd_two h
  have hm : ix ns n ∈ ns := ix_mem hn.1 (by omega)
  have h3 := h2 _ hm
  rw [e] at hm
  obtain ⟨w, _, hw⟩ := List.mem_map.mp hm
  rw [e, ← hw] at h3 ⊢
  exact num_is h3
theorem hd_r0 {line : Str} (h : headC ((splW line).map numD) = true) : headD line = .non := by unfold headD; rw [if_pos h]
theorem hd_r1 {line : Str} (h : headC ((splW line).map numD) = false) (h2 : headC2 ((splW line).map numD) = true) : headD line = .non := by unfold headD; rw [if_neg (by rw [h]; decide), if_pos h2]
theorem hd_r2 {line : Str} (h : headC ((splW line).map numD) = false) (h2 : headC2 ((splW line).map numD) = false) : headD line = .lst ((splW line).map numD) := by unfold headD; rw [if_neg (by rw [h]; decide), if_neg (by rw [h2]; decide)]
theorem row_r0 {hd : List Dat} {line : Str} (h : rwC (splW line) = true) : rowR hd line = .non := by unfold rowR; rw [if_pos h]
theorem row_r1 {hd : List Dat} {line : Str} {y : Dat} (h : rwC (splW line) = false) (e : rowL hd (splW line) = y) : rowR hd line = y := by unfold rowR; rw [if_neg (by rw [h]; decide)]; exact e
theorem rw_no {ws : List Str} (h : rwC ws = false) : (partsM (ix ws 0)).isSome = true := by
  unfold rwC at h
  rw [Bool.or_eq_false_iff] at h
  simpa using h.1
theorem mem_midT {α : Type} {pre post l : List α} {x : α} (h : pre ++ x :: post = l) : x ∈ l := by rw [← h]; simp
theorem cut_memT {α : Type} {l : List α} {lo hi : Option Int} {x : α} (h : x ∈ cutL l lo hi) : x ∈ l := List.mem_of_mem_drop (List.mem_of_mem_take h)
theorem cut_len1 {α : Type} (l : List α) : (cutL l (some 1) none).length = l.length - 1 := by rw [cut_tl, List.length_drop]
theorem ln_mem {g : Prog} (gk : ProgOk g) {hd : List Dat} {d : Dat} {rows : List Dat} (hr : rows = (cutL (linesM g) (some 1) none).map (rowR hd)) (hh : hd = [.int g.a, .int g.b]) (h : d ∈ rows) : ∃ r ∈ g.c.l, d = .tup r.dats := by
  rw [hr] at h
  obtain ⟨l, hl, rfl⟩ := List.mem_map.mp h
  obtain ⟨r, h1, h2, h3⟩ := ln_row gk hl
  exact ⟨r, h1, by rw [hh]; exact h3⟩
theorem jump_dats {r : WRow} (h : decide ((ix r.dats 0).toS = "jump") = true) : ∃ p q, r = .jump p q := by
  have h : r.word = "jump" := of_decide_eq_true h
  cases r with
  | jump p q => exact ⟨p, q, rfl⟩
  | set p q => exact absurd (show ("set" : Str) = "jump" from h) (by decide +kernel)
  | add p q => exact absurd (show ("add" : Str) = "jump" from h) (by decide +kernel)
  | say p => exact absurd (show ("say" : Str) = "jump" from h) (by decide +kernel)
  | take p => exact absurd (show ("take" : Str) = "jump" from h) (by decide +kernel)
  | fin => exact absurd (show ("end" : Str) = "jump" from h) (by decide +kernel)
theorem jump_bd {r : WRow} (h : decide ((ix r.dats 0).toS = "jump") = true) : 0 ≤ (2 : Int) ∧ (2 : Int) < (r.dats.length : Int) := by
  obtain ⟨p, q, rfl⟩ := jump_dats h
  exact ⟨by decide, by show (2 : Int) < ((3 : Nat) : Int); decide⟩
theorem jump_int {r : WRow} (h : decide ((ix r.dats 0).toS = "jump") = true) : (ix r.dats 2).isInt = true := by
  obtain ⟨p, q, rfl⟩ := jump_dats h
  rfl
theorem dats_bd (r : WRow) : 0 ≤ (0 : Int) ∧ (0 : Int) < (r.dats.length : Int) := ⟨by decide, by rw [r.dats_len]; omega⟩
theorem jump_no {g : Prog} (gk : ProgOk g) {r : WRow} (h : r ∈ g.c.l) {n : Nat} (hn : n = g.c.l.length) : (decide ((ix r.dats 0).toS = "jump") && decide ((ix r.dats 2).toI ≥ (n : Int))) = false := by
  cases e : decide ((ix r.dats 0).toS = "jump") with
  | false => rfl
  | true =>
    obtain ⟨p, q, rfl⟩ := jump_dats e
    have := gk.rows _ h
    obtain ⟨_, h1, h2⟩ := this
    show (true && decide (q ≥ (n : Int))) = false
    rw [Bool.true_and]
    exact decide_eq_false (by omega)
theorem js_of {ps : List Str} {m c : Nat} {a : Str} (h : ∀ p ∈ ps, p.length ≤ m) (hm : m ≤ 100) (hc : ps.length ≤ c) (hcc : c ≤ 100) (ha : a.length ≤ 1) : (ps.map (·.length)).sum + ps.length * a.length ≤ 16777216 := by
  have := sum_lens h
  have h2 : ps.length * m ≤ 100 * 100 := Nat.mul_le_mul (by omega) hm
  have h3 : ps.length * a.length ≤ 100 * 1 := Nat.mul_le_mul (by omega) ha
  omega
theorem sp_len : (" " : Str).length ≤ 1 := by decide +kernel
theorem nl_len : ("\n" : Str).length ≤ 1 := by decide +kernel
theorem js_pt {ds : List Dat} (h : ∀ d ∈ ds, PtOk d) (hl : ds.length ≤ 3) : ((ds.map partT).map (·.length)).sum + (ds.map partT).length * (" " : Str).length ≤ 16777216 :=
  js_of (m := 4) (c := 3) (fun p hp => by obtain ⟨d, hd, rfl⟩ := List.mem_map.mp hp; exact (h d hd).1) (by decide) (by rw [List.length_map]; exact hl) (by decide) sp_len
theorem js_head {g : Prog} (gk : ProgOk g) : ((([.int g.a, .int g.b] : List Dat).map partT).map (·.length)).sum + (([.int g.a, .int g.b] : List Dat).map partT).length * (" " : Str).length ≤ 16777216 := js_pt (head_pt gk) (by simp)
theorem js_row {g : Prog} (gk : ProgOk g) {r : WRow} (h : r ∈ g.c.l) : ((r.dats.map partT).map (·.length)).sum + (r.dats.map partT).length * (" " : Str).length ≤ 16777216 := js_pt (rowV_pt gk h) (dats_le r)
theorem js_text {g : Prog} (gk : ProgOk g) : (((headL g :: g.c.l.map fun r => lineM r.dats)).map (·.length)).sum + (headL g :: g.c.l.map fun r => lineM r.dats).length * ("\n" : Str).length ≤ 16777216 :=
  js_of (m := 15) (c := 21) (fun p hp => (lines_ok gk p hp).1) (by decide) (by have := gk.m1; have h2 := lines_len gk; unfold linesM at h2; rw [h2]; omega) (by decide) nl_len
theorem js_all {g : Prog} (gk : ProgOk g) {d : Dat} (hc : cutL d.items none (some 2) = [.int g.a, .int g.b]) : (((lineM (cutL d.items none (some 2)) :: (g.c.l.map ToD.dat).map fun r => lineM r.items)).map (·.length)).sum + (lineM (cutL d.items none (some 2)) :: (g.c.l.map ToD.dat).map fun r => lineM r.items).length * ("\n" : Str).length ≤ 16777216 := by
  rw [hc, List.map_map]
  exact js_text gk
theorem lx_head {g : Prog} (gk : ProgOk g) : (numT g.a).length + (" " : Str).length ≤ sizeLine := by
  have := (head_pt gk (.int g.a) (by simp)).1
  have h2 := sp_len
  exact le_line (by show (numT g.a).length + _ ≤ _; have : (numT g.a).length ≤ 4 := this; omega)
theorem cat_len (a b : Str) : (a ++ b).length = a.length + b.length := by rw [← tl_len, ← tl_len, ← tl_len, TL.tl_append, List.length_append]
theorem lx_head2 {g : Prog} (gk : ProgOk g) : (numT g.a ++ " ").length + (numT g.b).length ≤ sizeLine := by
  have h1 : (numT g.a).length ≤ 4 := (head_pt gk (.int g.a) (by simp)).1
  have h3 : (numT g.b).length ≤ 4 := (head_pt gk (.int g.b) (by simp)).1
  have h2 := sp_len
  rw [cat_len]
  exact le_line (by omega)
theorem lx_a {s : Str} (h : s.length ≤ 20) : s.length + (" " : Str).length ≤ sizeLine := le_line (by have := sp_len; omega)
theorem lx_b {s : Str} {d : Dat} (h : s.length ≤ 20) (hd : PtOk d) : (s ++ " ").length + (partT d).length ≤ sizeLine := by
  rw [cat_len]
  exact le_line (by have := sp_len; have := hd.1; omega)
theorem cut_dats (r : WRow) : Dat.str r.word :: cutL r.dats (some 1) none = r.dats := by unfold WRow.dats; rw [cut1]
theorem dats_part {r : WRow} (h : ∀ d ∈ r.dats, PtOk d) {pre post : List Dat} {d : Dat} (ex : pre ++ d :: post = cutL r.dats (some 1) none) : PtOk d := h d (cut_memT (mem_midT ex))
theorem lt_short {r : WRow} (h : ∀ d ∈ r.dats, PtOk d) {pre post : List Dat} {d : Dat} (ex : pre ++ d :: post = cutL r.dats (some 1) none) : (lineM (.str r.word :: pre)).length ≤ 20 := by
  have hl : pre.length ≤ 2 := by
    have := congrArg List.length ex
    rw [cut_len1, r.dats_len] at this
    have := r.nums_le
    simp at *
    omega
  have := line_len (ds := .str r.word :: pre) fun x hx => by
    rcases List.mem_cons.mp hx with rfl | hx
    · exact pt_word r
    · exact h x (cut_memT (lo := some 1) (hi := none) (by rw [← ex]; simp [hx]))
  rw [List.length_cons] at this
  omega
theorem enum_inT {α : Type} {pre post : List (Int × α)} {x : Int × α} {l : List α} (h : pre ++ x :: post = enumI l) : x.2 ∈ l := by
  have hm : x ∈ enumI l := mem_midT h
  unfold enumI at hm
  obtain ⟨p, hp, rfl⟩ := List.mem_map.mp hm
  exact (List.mem_zipIdx hp).2.2 ▸ List.getElem_mem _
theorem EvX.asLT {K : Fg} {te : TE} {G G1 : List Sl} {d : Dat} (h : EvX K te G d G1) (hd : d.isL = true) : EvX K te G d.items G1 := by
  cases d with
  | lst l => exact fun B S0 S σ H F k Q q => h B S0 S σ H F k Q fun v S' H' e' k' r => q v S' H' e' k' (by
      cases r with
      | lst h1 h2 => exact ⟨_, _, rfl, h1, h2.rep⟩)
  | _ => exact absurd hd Bool.false_ne_true
theorem lst_dat (l : List Dat) : ToD.dat l = Dat.lst l := by
  show Dat.lst (l.map ToD.dat) = _
  congr 1
  exact List.map_id l
theorem nc_bd {w : Str} {c : Bool} (h : (!(decide (1 ≤ (w.length : Int)) && c)) = false) : 0 ≤ (0 : Int) ∧ (0 : Int) < (w.length : Int) := by
  simp only [Bool.not_eq_false', Bool.and_eq_true, decide_eq_true_eq] at h
  omega
theorem tup_dat (l : List Dat) : ToD.dat (Tp.mk l) = Dat.tup l := by
  show Dat.tup (l.map ToD.dat) = _
  congr 1
  exact List.map_id l
theorem dle_prog {g : Prog} (gk : ProgOk g) : DLe 4 (ToD.dat g) := dl_le (dl_t3' dl_int dl_int (dl_tp' (by have := gk.m1; omega) dl_rows)) (k := 3) (by decide)
theorem dle_str (s : Str) : DLe 4 (ToD.dat s) := .str
end GL


namespace L52
open PySem PySem.Spec PyProof.Rows L2 GL
def topS (i : Nat) : Stmt := PySem.Challenge.pw_warmove_k52_programs_written.main.body.getD i (.Pass ⟨0, 0, 0, 0⟩)
abbrev s_program_text : Stmt := topS 11
abbrev s_number_told : Stmt := topS 12
abbrev s_head_told : Stmt := topS 13
abbrev s_row_told : Stmt := topS 14
abbrev s_read_lines : Stmt := topS 15
abbrev s_read_program : Stmt := topS 16
abbrev s__law_pen : Stmt := topS 18
abbrev s__law_take : Stmt := topS 19
abbrev s__law_row : Stmt := topS 20
abbrev s__law_program : Stmt := topS 21
abbrev s__law_sheets : Stmt := topS 22
abbrev s__law_same : Stmt := topS 23
abbrev s__law_text : Stmt := topS 24
abbrev s_law : Stmt := topS 25
structure Tx (K : Fg) (mg : Str → Option Value) (w : World) : Prop where
  d_program_text : Def K mg "program_text" s_program_text ["program"]
  d_number_told : Def K mg "number_told" s_number_told ["word"]
  d_head_told : Def K mg "head_told" s_head_told ["line"]
  d_row_told : Def K mg "row_told" s_row_told ["head", "line"]
  d_read_lines : Def K mg "read_lines" s_read_lines ["lines"]
  d_read_program : Def K mg "read_program" s_read_program ["text"]
  d__law_pen : Def K mg "_law_pen" s__law_pen ["script"]
  d__law_take : Def K mg "_law_take" s__law_take ["pen", "many"]
  d__law_row : Def K mg "_law_row" s__law_row ["pen", "n", "w", "many", "takes"]
  d__law_program : Def K mg "_law_program" s__law_program ["pen", "takes"]
  d__law_same : Def K mg "_law_same" s__law_same ["found", "due"]
  d__law_text : Def K mg "_law_text" s__law_text ["program"]
  d_law : Def K mg "law" s_law ["script"]
  n_bool : mg "bool" = none
  n_enumerate : mg "enumerate" = none
  n_int : mg "int" = none
  n_isinstance : mg "isinstance" = none
  n_len : mg "len" = none
  n_list : mg "list" = none
  n_range : mg "range" = none
  n_str : mg "str" = none
  n_tuple : mg "tuple" = none
  n_zip : mg "zip" = none
  g_FIGURES : ∃ t, mg "FIGURES" = some (.str "0123456789" t)
  g_LEAST_WHEEL : ∃ t, mg "LEAST_WHEEL" = some (.int 2 t)
  g_MOST_FIGURES : ∃ t, mg "MOST_FIGURES" = some (.int 4 t)
  g_MOST_ROWS : ∃ t, mg "MOST_ROWS" = some (.int 20 t)
  g_MOST_SHEETS : ∃ t, mg "MOST_SHEETS" = some (.int 12 t)
  g_MOST_WHEEL : ∃ t, mg "MOST_WHEEL" = some (.int 100 t)
  g_PARTS : KParts K w mg "PARTS"
end L52
namespace L52
open PySem PySem.Spec PyProof.Rows L2 GL
theorem sc_program_text : FnScope ["program", "lines", "row", "number", "part"] ["program"] (defScope s_program_text) := ⟨rfl, rfl, rfl, by decide +kernel, rfl, by decide +kernel, by decide +kernel⟩
section
variable {P : Program} {w : World} {K : Fg} {mg : Str → Option Value} {base : Heap}
set_option maxHeartbeats 4000000 in
theorem ok_program_text (T : Tx K mg w)  : Cal P w K mg base 1 "program_text" ["program"] (spF K (fun a : Dat × Unit => progTx a.1) (fun a => DgOk a.1)) := by
  have nd := sc_program_text.nd
  refine def_spF (k := 0) T.d_program_text sc_program_text rfl fun fa cdv A outer s H E hr => ?_
  refine ⟨_, pss_cons (ps_set (i := 1) nd rfl (.inl rfl) (pe_lst (pa_cons (pe_m1 (r := rJoinS K) F.slot_str_join F.type_str_join mt_join (pe_str) (pe_lc (own := [("number", 3)]) (g := gName 3) (by rfl) nd (pi_tup (pe_slice sl_tupA (pv 0) po_none (po_some (pe_int)))) (blkOk_by (N := ["program", "lines", "row", "number", "part"]) (sc := defScope s_program_text) (by decide +kernel)) (fun _ _ _ _ _ => pg_name (i := 3) nd rfl (.inl rfl) (.inr rfl)) (fun _ _ _ _ _ => pts_nil) (fun _ _ _ _ _ => pe_callTy (r := rStrD) call_strD (by rfl) T.n_str (by decide +kernel) (pa_cons (pv 3) pa_nil)))) pa_nil)))
      (pss_cons (ps_for PassesOwn.never rfl (pi_tup (pe_ix (r := rIxT K) ix_tup (pv 0) (pe_int) (fun _ _ => rfl))) (pg_name (i := 2) nd rfl (.inl rfl))
      (pss_cons (ps_expr (pe_bm PySem.F.plainAttrs_list PySem.F.slot_list_append PySem.F.type_list_append mt_append (pv 1) (pa_cons (pe_m1 (r := rJoinS K) F.slot_str_join F.type_str_join mt_join (pe_str) (pe_lc (own := [("part", 4)]) (g := gName 4) (by rfl) nd (pi_tup (pv 2)) (blkOk_by (N := ["program", "lines", "row", "number", "part"]) (sc := defScope s_program_text) (by decide +kernel)) (fun _ _ _ _ _ => pg_name (i := 4) nd rfl (.inl rfl) (.inr rfl)) (fun _ _ _ _ _ => pts_nil) (fun _ _ _ _ _ => pe_callTy (r := rStrD) call_strD (by rfl) T.n_str (by decide +kernel) (pa_cons (pv 4) pa_nil)))) pa_nil)))
      (pss_nil)))
      (pss_cons (ps_ret (pe_m1 (r := rJoinS K) F.slot_str_join F.type_str_join mt_join (pe_str) (pv 1)))
      (pss_nil))), ?_⟩
  rintro ⟨program, _⟩ hpre B S0 Q hret
  show At _ _ _ _ [.im program, .no, .no, .no, .no]
  obtain ⟨g, gk, hg⟩ := hpre
  dsimp only at hg
  have hi : program.items = [.int g.a, .int g.b, .tup (g.c.l.map ToD.dat)] := by rw [hg]; rfl
  have hr2 : (ix program.items 2).items = g.c.l.map ToD.dat := by rw [hi]; rfl
  have hc2 : cutL program.items none (some 2) = [.int g.a, .int g.b] := by rw [hi]; rfl
  have m1 := gk.m1
  refine qg_own 1 (el_lst (els_cons (ev_joinS (ev_str) (EvL.c (el_lcM _ (it_tup (ev_slT (EvX.asT (ev_var (i := 0) rfl) (by first | (rw [hg]; rfl) | (rw [← hr1]; rfl) | (rw [hi]; rfl))) eo_none (eo_some (ev_int)))) (by first | (dsimp only; rw [hc2]; exact (by decide : (2 : Nat) ≤ 1000000)) | (dsimp only; rw [hri]; have := dats_le r_; omega)) rfl (fun x hm_x => ⟨_, _, tg_name rfl, (by decide), ev_strD (ev_var (i := 3) rfl) (by first | (rw [hc2] at hm_x; exact (head_pt gk _ hm_x).2.2.2) | exact (rowV_pt gk hr0 _ (by rw [← hri]; assumption)).2.2.2)⟩))) (by first | (rw [hc2]; exact js_head gk) | (rw [hri]; exact js_row gk hr0) | (rw [hs0, hr2]; exact js_all gk hc2))) (els_nil)) (by simp)) rfl fun lines h_lines => ?_
  refine qg_inv (fun st_ : (List Str) => [.im program, .ow st_, .no, .no, .no]) (fun pre (st : List Str) => st = lineM (cutL program.items none (some 2)) :: pre.map fun r => lineM r.items) lines (it_tup (EvX.asT (ev_ixT (EvX.asT (ev_var (i := 0) rfl) (by first | (rw [hg]; rfl) | (rw [← hr1]; rfl) | (rw [hi]; rfl))) (ev_int) (by dsimp only; rw [hi]; exact ⟨by decide, by show (2 : Int) < ((3 : Nat) : Int); decide⟩)) (by first | (rw [hg]; rfl) | (rw [← hr1]; rfl) | (rw [hi]; rfl)))) (.k (.k (.d (.d (.d .n))))) (by rw [h_lines]; rfl) (fun pre0 row post0 s0 ex0 hs0 Sb0 rb0 => ⟨_, _, tg_name rfl, ?_⟩) (fun s0 hs0 => ?_)
  ·
    show At _ _ _ _ [.im program, .ow s0, .im row, .no, .no]
    have hmem := mem_midT ex0
    rw [hr2] at hmem
    obtain ⟨r_, hr0, hr1⟩ := List.mem_map.mp hmem
    have hri : row.items = r_.dats := by rw [← hr1]; rfl
    have hpl : pre0.length < g.c.l.length := by have := congrArg List.length ex0; rw [hr2] at this; simp at this; omega
    refine qg_app 1 rfl (ev_joinS (ev_str) (EvL.c (el_lcM _ (it_tup (EvX.asT (ev_var (i := 2) rfl) (by first | (rw [hg]; rfl) | (rw [← hr1]; rfl) | (rw [hi]; rfl)))) (by first | (dsimp only; rw [hc2]; exact (by decide : (2 : Nat) ≤ 1000000)) | (dsimp only; rw [hri]; have := dats_le r_; omega)) rfl (fun x1 hm_x1 => ⟨_, _, tg_name rfl, (by decide), ev_strD (ev_var (i := 4) rfl) (by first | (rw [hc2] at hm_x; exact (head_pt gk _ hm_x).2.2.2) | exact (rowV_pt gk hr0 _ (by rw [← hri]; assumption)).2.2.2)⟩))) (by first | (rw [hc2]; exact js_head gk) | (rw [hri]; exact js_row gk hr0) | (rw [hs0, hr2]; exact js_all gk hc2))) rfl (by exact lt_line (by rw [hs0, List.length_cons, List.length_map]; omega)) fun lines1 h_lines1 => ?_
    exact q_next (at_mid (.k (.k (.d (.d (.d .n))))) ⟨lines1, by rfl, by rw [h_lines1, hs0, List.map_append]; rfl⟩)
  ·
    show At _ _ _ _ [.im program, .ow s0, .no, .no, .no]
    refine at_relL (i := 1) rfl ?_
    exact q_ret (ev_joinS (ev_str) (EvX.c (ev_var (i := 1) rfl)) (by first | (rw [hc2]; exact js_head gk) | (rw [hri]; exact js_row gk hr0) | (rw [hs0, hr2]; exact js_all gk hc2))) (hret _ _ (by unfold progTx; rw [hs0]))
end
theorem sc_number_told : FnScope ["word", "sign"] ["word"] (defScope s_number_told) := ⟨rfl, rfl, rfl, by decide +kernel, rfl, by decide +kernel, by decide +kernel⟩
section
variable {P : Program} {w : World} {K : Fg} {mg : Str → Option Value} {base : Heap}
set_option maxHeartbeats 4000000 in
theorem ok_number_told (T : Tx K mg w)  : Cal P w K mg base 1 "number_told" ["word"] (spF K (fun a : Str × Unit => numD a.1) (fun a => a.1.length ≤ 900000)) := by
  have nd := sc_number_told.nd
  refine def_spF (k := 0) T.d_number_told sc_number_told rfl fun fa cdv A outer s H E hr => ?_
  refine ⟨_, pss_cons (ps_if (PW.pt (pw_or (pt_not (pt_chain op_le op_le (pe_int) (pe_callB call_lenX (by rfl) T.n_len (by decide +kernel) (pa_cons (pv 0) pa_nil)) (pe_globI (by rfl) T.g_MOST_FIGURES))) (pw_or1 (PW.pt (pw_and (pt_cmpR op_eq (pe_ix (r := rIxS) ix_str (pv 0) (pe_int) (fun _ _ => rfl)) (pe_str) (nomark _)) (pw_and1 (pt_cmpR op_gt (pe_callB call_lenX (by rfl) T.n_len (by decide +kernel) (pa_cons (pv 0) pa_nil)) (pe_int) (nomark _)))))))) (pss_cons (ps_ret (pe_non))
      (pss_nil)) (pss_nil))
      (pss_cons (ps_for PassesOwn.never rfl (pi_str (pv 0)) (pg_name (i := 1) nd rfl (.inl rfl))
      (pss_cons (ps_if (pt_cmpR (r := rNinS) op_ninS (pv 1) (pe_globS (by rfl) T.g_FIGURES) (by rfl)) (pss_cons (ps_ret (pe_non))
      (pss_nil)) (pss_nil))
      (pss_nil)))
      (pss_cons (ps_ret (pe_callTy call_intX (by rfl) T.n_int (by decide +kernel) (pa_cons (pv 0) pa_nil)))
      (pss_nil))), ?_⟩
  rintro ⟨word, _⟩ hpre B S0 Q hret
  show At _ _ _ _ [.im word, .no]
  dsimp only at hpre
  have hp : word.length ≤ 1000000 := by omega
  refine q_if (et_or (et_not (et_test (ev_chain (ev_int) (ev_lenX (ev_var (i := 0) rfl) (by exact le_line hp)) (ev_int)))) (fun hc0 => et_and (et_test (ev_eq (ev_sgS (ev_var (i := 0) rfl) (ev_int) (by exact le_line hp) (by exact nc_bd hc0)) (ev_str))) (fun hc0 => et_test (ev_b0 (ev_lenX (ev_var (i := 0) rfl) (by exact le_line hp)) (ev_int))))) (fun hb0 => ?_) (fun hb0 => ?_)
  ·
    exact q_ret (EvX.dat (ev_non)) (hret _ _ (by exact (num_r0 hb0).symm))
  ·
    refine q_next ?_
    refine qg_forL (fun st_ : Unit => [.im word, .no]) nsB (fun _ => Dat.int ((intText? word).getD 0)) () (numR word) (fun pre _ => ∀ x ∈ pre, inS x "0123456789" = true) (it_signs (ev_var (i := 0) rfl)) (.k (.d .n)) (by unfold numR; rfl) (fun _ h => by cases h) (fun pre0 sign post0 s0 ex0 hs0 hR0 Sb0 rb0 => ⟨_, _, tg_name rfl, ?_⟩) (fun s0 hR0 hs0 => ?_)
    ·
      show At _ _ _ _ [.im word, .im sign]
      refine q_if (et_test (ev_ninS (ev_var (i := 1) rfl) (ev_str))) (fun hb1 => ?_) (fun hb1 => ?_)
      ·
        exact q_ret (EvX.dat (ev_non)) ((hret _ _ (by exact (num_r2 hb0 (forL_rt hR0 (ns_rt hb1))).symm)).reb rb0)
      ·
        refine q_next ?_
        exact q_next (at_mid (.k (.d .n)) ⟨(), by rfl, forL_nx hR0 (by exact ns_nx hb1), by exact all_snocT hs0 (by simpa using hb1)⟩)
    ·
      show At _ _ _ _ [.im word, .no]
      exact q_ret (EvX.dat (ev_intX (ev_var (i := 0) rfl) (by rw [int_some hs0 (nc_no hb0).1 (nc_no hb0).2]; rfl) (by have := (nc_no hb0).2; omega))) (hret _ _ (by exact (num_r2 hb0 hR0).symm))
end
theorem sc_head_told : FnScope ["line", "numbers", "word"] ["line"] (defScope s_head_told) := ⟨rfl, rfl, rfl, by decide +kernel, rfl, by decide +kernel, by decide +kernel⟩
section
variable {P : Program} {w : World} {K : Fg} {mg : Str → Option Value} {base : Heap}
set_option maxHeartbeats 4000000 in
theorem ok_head_told (T : Tx K mg w) (c_number_told : Cal P w K mg base 1 "number_told" ["word"] (spF K (fun a : Str × Unit => numD a.1) (fun a => a.1.length ≤ 900000))) : Cal P w K mg base 2 "head_told" ["line"] (spF K (fun a : Str × Unit => headD a.1) (fun a => a.1.length ≤ 900000)) := by
  have nd := sc_head_told.nd
  refine def_spF (k := 1) T.d_head_told sc_head_told rfl fun fa cdv A outer s H E hr => ?_
  refine ⟨_, pss_cons (ps_setLc (i := 1) (own := [("word", 2)]) (g := gName 2) rfl nd rfl rfl (sw_true rfl rfl rfl (by decide +kernel)) (pi_list (pe_m1 (r := rSplitS) F.slot_str_split F.type_str_split mt_split (pv 0) (pe_str))) (blkOk_by (N := ["line", "numbers", "word"]) (sc := defScope s_head_told) (by decide +kernel)) (fun _ _ _ _ _ => pg_name (i := 2) nd rfl (.inl rfl) (.inr rfl)) (fun _ _ _ _ _ => pts_nil) (fun _ _ _ _ _ => pe_cal c_number_told hr (by decide) (by rfl) (pa_cons (pv 2) pa_nil)))
      (pss_cons (ps_if (PW.pt (pw_or (pt_cmpR op_ne (pe_callB call_lenG (by rfl) T.n_len (by decide +kernel) (pa_cons (pv 1) pa_nil)) (pe_int) (nomark _)) (pw_or1 (pt_cmpR (r := rIn K false) op_in_seq (pe_non) (pv 1) (by rfl))))) (pss_cons (ps_ret (pe_non))
      (pss_nil)) (pss_nil))
      (pss_cons (ps_if (PW.pt (pw_or (pt_not (pt_chain op_le op_le (pe_int) (pe_ix (r := rIxL K) ix_list (pv 1) (pe_int) (fun _ _ => rfl)) (pe_globI (by rfl) T.g_MOST_SHEETS))) (pw_or1 (pt_not (pt_chain op_le op_le (pe_globI (by rfl) T.g_LEAST_WHEEL) (pe_ix (r := rIxL K) ix_list (pv 1) (pe_int) (fun _ _ => rfl)) (pe_globI (by rfl) T.g_MOST_WHEEL)))))) (pss_cons (ps_ret (pe_non))
      (pss_nil)) (pss_nil))
      (pss_cons (ps_ret (pv 1))
      (pss_nil)))), ?_⟩
  rintro ⟨line, _⟩ hpre B S0 Q hret
  show At _ _ _ _ [.im line, .no, .no]
  dsimp only at hpre
  refine qg_set 1 (EvL.ev (el_lcM _ (it_list (EvL.ev (el_splitS (ev_var (i := 0) rfl) (ev_str) (by decide +kernel) (by exact le_line2 hpre)))) (by have := PyProof.Rows.split_le line " "; omega) rfl (fun x hm_x => ⟨_, _, tg_name rfl, (by decide), ev_call (ea_cons (ev_var (i := 2) rfl) (ea_nil)) (by exact Nat.le_trans (split_lens (c := 32) (by decide) _ hm_x) hpre)⟩))) rfl fun numbers h_numbers => ?_
  refine q_if (et_or (et_test (ev_ne (ev_len (EvX.c (ev_var (i := 1) rfl))) (ev_int))) (fun hc0 => et_test (ev_noneIn (EvX.c (ev_var (i := 1) rfl)) (by rw [h_numbers]; exact none_num)))) (fun hb0 => ?_) (fun hb0 => ?_)
  ·
    exact q_ret (EvX.dat (ev_non)) (hret _ _ (by rw [h_numbers] at hb0; exact (hd_r0 hb0).symm))
  ·
    refine q_next ?_
    refine q_if (et_or (et_not (et_test (ev_chain (ev_int) (EvX.asI (ev_ix (ev_var (i := 1) rfl) (ev_int) (by have := hd_two hb0; exact ⟨by decide, by omega⟩)) (by exact hd_int h_numbers hb0 (by decide))) (ev_int)))) (fun hc0 => et_not (et_test (ev_chain (ev_int) (EvX.asI (ev_ix (ev_var (i := 1) rfl) (ev_int) (by have := hd_two hb0; exact ⟨by decide, by omega⟩)) (by exact hd_int h_numbers hb0 (by decide))) (ev_int))))) (fun hb1 => ?_) (fun hb1 => ?_)
    ·
      exact q_ret (EvX.dat (ev_non)) (hret _ _ (by rw [h_numbers] at hb0 hb1; exact (hd_r1 hb0 hb1).symm))
    ·
      refine q_next ?_
      exact q_ret (EvX.dat (ev_var (i := 1) rfl)) (hret _ _ (by rw [h_numbers] at hb0 hb1; rw [h_numbers]; exact (lst_dat _).trans (hd_r2 hb0 hb1).symm))
end
theorem sc_row_told : FnScope ["head", "line", "words", "limits", "row", "word", "sort", "number"] ["head", "line"] (defScope s_row_told) := ⟨rfl, rfl, rfl, by decide +kernel, rfl, by decide +kernel, by decide +kernel⟩
section
variable {P : Program} {w : World} {K : Fg} {mg : Str → Option Value} {base : Heap}
set_option maxHeartbeats 4000000 in
theorem ok_row_told (T : Tx K mg w) (c_number_told : Cal P w K mg base 1 "number_told" ["word"] (spF K (fun a : Str × Unit => numD a.1) (fun a => a.1.length ≤ 900000))) : Cal P w K mg base 2 "row_told" ["head", "line"] (spF K (fun a : (List Dat) × Str × Unit => rowR a.1 a.2.1) (fun a => HdOk a.1 ∧ a.2.1.length ≤ 900000)) := by
  have nd := sc_row_told.nd
  refine def_spF (k := 1) T.d_row_told sc_row_told rfl fun fa cdv A outer s H E hr => ?_
  refine ⟨_, pss_cons (ps_set (i := 2) nd rfl (.inl rfl) (pe_m1 (r := rSplitS) F.slot_str_split F.type_str_split mt_split (pv 1) (pe_str)))
      (pss_cons (ps_if (PW.pt (pw_or (pt_cmpR (r := rInK K w true) op_notInK (pe_ix (r := rIxL K) ix_list (pv 2) (pe_int) (fun _ _ => rfl)) (pe_globT (by rfl)) (by rfl)) (pw_or1 (pt_cmpR op_ne (pe_callB call_lenG (by rfl) T.n_len (by decide +kernel) (pa_cons (pv 2) pa_nil)) (pe_op op_add (pe_callB call_lenG (by rfl) T.n_len (by decide +kernel) (pa_cons (pe_ix (r := rIxD K w) ix_kdict (pe_globT (by rfl)) (pe_ix (r := rIxL K) ix_list (pv 2) (pe_int) (fun _ _ => rfl)) (fun _ _ => rfl)) pa_nil)) (pe_int)) (nomark _))))) (pss_cons (ps_ret (pe_non))
      (pss_nil)) (pss_nil))
      (pss_cons (ps_set (i := 3) nd rfl (.inl rfl) (pe_disp (pps_cons pe_str (pe_ix (r := rIxL K) ix_list (pv 0) (pe_int) (fun _ _ => rfl)) (pps_cons pe_str (pe_ix (r := rIxL K) ix_list (pv 0) (pe_int) (fun _ _ => rfl)) (pps_nil))) rfl rfl (by simp) (by decide)))
      (pss_cons (ps_set (i := 4) nd rfl (.inl rfl) (pe_lst (pa_cons (pe_ix (r := rIxL K) ix_list (pv 2) (pe_int) (fun _ _ => rfl)) pa_nil)))
      (pss_cons (ps_for PassesOwn.never rfl (pi_zipM (by rfl) T.n_zip (pa_cons (pe_slice sl_list (pv 2) (po_some (pe_int)) po_none) (pa_cons (pe_ix (r := rIxD K w) ix_kdict (pe_globT (by rfl)) (pe_ix (r := rIxL K) ix_list (pv 2) (pe_int) (fun _ _ => rfl)) (fun _ _ => rfl)) pa_nil))) (pg_tup rfl (pgs_cons (pg_name (i := 5) nd rfl (.inl rfl)) (pgs_cons (pg_name (i := 6) nd rfl (.inl rfl)) (pgs_nil))))
      (pss_cons (ps_set (i := 7) nd rfl (.inl rfl) (pe_cal c_number_told hr (by decide) (by rfl) (pa_cons (pv 5) pa_nil)))
      (pss_cons (ps_if (PW.pt (pw_or (pt_cmp (pc_isN (pv 7))) (pw_or1 (pt_cmpR op_ge (pv 7) (pe_dget2 (hu_of hr) (pv 3) (pv 6) (pe_op op_add (pv 7) (pe_int)) ⟨rfl, rfl, rfl, rfl⟩) (nomark _))))) (pss_cons (ps_ret (pe_non))
      (pss_nil)) (pss_nil))
      (pss_cons (ps_expr (pe_bm PySem.F.plainAttrs_list PySem.F.slot_list_append PySem.F.type_list_append mt_append (pv 4) (pa_cons (pv 7) pa_nil)))
      (pss_nil)))))
      (pss_cons (ps_ret (pe_callTy call_tupG (by rfl) T.n_tuple (by decide +kernel) (pa_cons (pv 4) pa_nil)))
      (pss_nil)))))), ?_⟩
  rintro ⟨head, line, _⟩ hpre B S0 Q hret
  show At _ _ _ _ [.im head, .im line, .no, .no, .no, .no, .no, .no]
  obtain ⟨hk, hl⟩ := hpre
  dsimp only at hk hl
  refine qg_set 2 (EvL.ev (el_splitS (ev_var (i := 1) rfl) (ev_str) (by decide +kernel) (by exact le_line2 hl))) rfl fun words h_words => ?_
  have hw1 : 1 ≤ words.length := by rw [h_words]; exact PyProof.Rows.split_pos _ _
  have hwl : words.length ≤ 900002 := by rw [h_words]; have := PyProof.Rows.split_le line " "; omega
  refine q_if (et_or (et_test (ev_ninParts (ev_ix (ev_var (i := 2) rfl) (ev_int) (by first | exact ⟨by decide, by omega⟩ | (have := hk.1; exact ⟨by decide, by omega⟩))) T.g_PARTS)) (fun hc0 => et_test (ev_ne (ev_len (EvX.c (ev_var (i := 2) rfl))) (ev_i0 (ev_lenT (ev_partsIxG T.g_PARTS (ev_ix (ev_var (i := 2) rfl) (ev_int) (by first | exact ⟨by decide, by omega⟩ | (have := hk.1; exact ⟨by decide, by omega⟩))) (by first | exact rw_no hb0 | (simpa using hc0)))) (ev_int))))) (fun hb0 => ?_) (fun hb0 => ?_)
  ·
    exact q_ret (EvX.dat (ev_non)) (hret _ _ (by rw [h_words] at hb0; exact (row_r0 hb0).symm))
  ·
    refine q_next ?_
    refine qg_set 3 (ev_td2 (a := "sheet") (b := "number") (EvX.asI (ev_ix (ev_var (i := 0) rfl) (ev_int) (by first | exact ⟨by decide, by omega⟩ | (have := hk.1; exact ⟨by decide, by omega⟩))) (by first | exact hk.2.1 | exact hk.2.2 | (rw [h_number]; exact num_is (by rw [← h_number]; exact hc0)))) (EvX.asI (ev_ix (ev_var (i := 0) rfl) (ev_int) (by first | exact ⟨by decide, by omega⟩ | (have := hk.1; exact ⟨by decide, by omega⟩))) (by first | exact hk.2.1 | exact hk.2.2 | (rw [h_number]; exact num_is (by rw [← h_number]; exact hc0)))) (by decide +kernel)) rfl fun limits h_limits => ?_
    refine qg_own 4 (el_lst (els_cons (EvX.dat (ev_ix (ev_var (i := 2) rfl) (ev_int) (by first | exact ⟨by decide, by omega⟩ | (have := hk.1; exact ⟨by decide, by omega⟩)))) (els_nil)) (by simp)) rfl fun row h_row => ?_
    refine qg_forL (fun st_ : (List Dat) => [.im head, .im line, .im words, .im limits, .ow st_, .no, .no, .no]) (rwB head) (fun acc => Dat.tup acc) row (rowL head words) (fun pre (st : List Dat) => st.length = 1 + pre.length) (it_zipM (EvL.ev (el_slice (EvX.c (ev_var (i := 2) rfl)) (eo_some (ev_int)) eo_none)) (ev_partsIxG T.g_PARTS (ev_ix (ev_var (i := 2) rfl) (ev_int) (by first | exact ⟨by decide, by omega⟩ | (have := hk.1; exact ⟨by decide, by omega⟩))) (by first | exact rw_no hb0 | (simpa using hc0)))) (.k (.k (.k (.k (.k (.d (.d (.d .n)))))))) (by rw [h_row]; unfold rowL; rfl) (by rw [h_row]; rfl) (fun pre0 it post0 s0 ex0 hs0 hR0 Sb0 rb0 => ⟨_, _, tg_pair (tg_name rfl) (tg_name rfl), ?_⟩) (fun s0 hR0 hs0 => ?_)
    ·
      show At _ _ _ _ [.im head, .im line, .im words, .im limits, .ow s0, .im it.1, .im it.2, .no]
      have hpl : pre0.length ≤ 900002 := by have := congrArg List.length ex0; rw [List.length_zip, cut_len1] at this; simp at this; omega
      refine qg_set 7 (ev_call (ea_cons (ev_var (i := 5) rfl) (ea_nil)) (by exact Nat.le_trans (split_lens (c := 32) (by decide) _ (by rw [← sp_eq, ← h_words]; exact cut_memT (List.of_mem_zip (mem_midT ex0)).1)) hl)) rfl fun number h_number => ?_
      refine q_if (et_or (et_B (ev_isND (ev_var (i := 7) rfl))) (fun hc0 => et_test (ev_b0 (EvX.asI (ev_var (i := 7) rfl) (by first | exact hk.2.1 | exact hk.2.2 | (rw [h_number]; exact num_is (by rw [← h_number]; exact hc0)))) (ev_tdget2 (ev_var (i := 3) rfl) (ev_var (i := 6) rfl) (ev_i0 (EvX.asI (ev_var (i := 7) rfl) (by first | exact hk.2.1 | exact hk.2.2 | (rw [h_number]; exact num_is (by rw [← h_number]; exact hc0)))) (ev_int)))))) (fun hb1 => ?_) (fun hb1 => ?_)
      ·
        exact q_ret (EvX.dat (ev_non)) ((hret _ _ (by rw [h_words] at hb0; exact (row_r1 hb0 (by show rowL head (Txt.split line " ") = _; rw [← h_words]; rw [h_number, h_limits] at hb1; exact forL_rt hR0 (rw_rt hb1))).symm)).reb rb0)
      ·
        refine q_next ?_
        refine qg_app 4 rfl (ev_var (i := 7) rfl) rfl (by exact lt_line (by omega)) fun row1 h_row1 => ?_
        exact q_next (at_mid (.k (.k (.k (.k (.k (.d (.d (.d .n)))))))) ⟨row1, by rfl, forL_nx hR0 (by rw [h_row1, h_number]; rw [h_number, h_limits] at hb1; exact rw_nx hb1), by rw [h_row1, List.length_append, List.length_append, hs0, List.length_singleton, List.length_singleton]; omega⟩)
    ·
      show At _ _ _ _ [.im head, .im line, .im words, .im limits, .ow s0, .no, .no, .no]
      refine at_relL (i := 4) rfl ?_
      exact q_ret (EvX.dat (ev_tup (EvX.c (ev_var (i := 4) rfl)))) (hret _ _ (by rw [h_words] at hb0; exact (row_r1 hb0 (by show rowL head (Txt.split line " ") = _; rw [← h_words]; exact hR0.trans (tup_dat _).symm)).symm))
end
theorem sc_read_lines : FnScope ["lines", "head", "rows", "line", "row", "number"] ["lines"] (defScope s_read_lines) := ⟨rfl, rfl, rfl, by decide +kernel, rfl, by decide +kernel, by decide +kernel⟩
section
variable {P : Program} {w : World} {K : Fg} {mg : Str → Option Value} {base : Heap}
set_option maxHeartbeats 4000000 in
theorem ok_read_lines (T : Tx K mg w) (c_head_told : Cal P w K mg base 2 "head_told" ["line"] (spF K (fun a : Str × Unit => headD a.1) (fun a => a.1.length ≤ 900000))) (c_row_told : Cal P w K mg base 2 "row_told" ["head", "line"] (spF K (fun a : (List Dat) × Str × Unit => rowR a.1 a.2.1) (fun a => HdOk a.1 ∧ a.2.1.length ≤ 900000))) : Cal P w K mg base 3 "read_lines" ["lines"] (spF K (fun a : (List Str) × Unit => linesD a.1) (fun a => LnP a.1)) := by
  have nd := sc_read_lines.nd
  refine def_spF (k := 2) T.d_read_lines sc_read_lines rfl fun fa cdv A outer s H E hr => ?_
  refine ⟨_, pss_cons (ps_set (i := 1) nd rfl (.inl rfl) (pe_cal c_head_told hr (by decide) (by rfl) (pa_cons (pe_ix (r := rIxL K) ix_list (pv 0) (pe_int) (fun _ _ => rfl)) pa_nil)))
      (pss_cons (ps_if (pt_cmp (pc_isN (pv 1))) (pss_cons ps_never (pss_nil)) (pss_nil))
      (pss_cons (ps_set (i := 2) nd rfl (.inl rfl) (pe_lst (pa_nil)))
      (pss_cons (ps_for PassesOwn.never rfl (pi_list (pe_slice sl_list (pv 0) (po_some (pe_int)) po_none)) (pg_name (i := 3) nd rfl (.inl rfl))
      (pss_cons (ps_set (i := 4) nd rfl (.inl rfl) (pe_cal c_row_told hr (by decide) (by rfl) (pa_cons (pv 1) (pa_cons (pv 3) pa_nil))))
      (pss_cons (ps_if (PW.pt (pw_or (pt_cmp (pc_isN (pv 4))) (pw_or1 (pt_cmpR op_eq (pe_callB call_lenG (by rfl) T.n_len (by decide +kernel) (pa_cons (pv 2) pa_nil)) (pe_globI (by rfl) T.g_MOST_ROWS) (nomark _))))) (pss_cons ps_never (pss_nil)) (pss_nil))
      (pss_cons (ps_expr (pe_bm PySem.F.plainAttrs_list PySem.F.slot_list_append PySem.F.type_list_append mt_append (pv 2) (pa_cons (pv 4) pa_nil)))
      (pss_nil)))))
      (pss_cons (ps_if (pt_cmpR (r := rEqNl K) (op_eqNl (Nat.lt_of_succ_lt (hu_of hr))) (pv 2) (pe_lst pa_nil) (nomark _)) (pss_cons ps_never (pss_nil)) (pss_nil))
      (pss_cons (ps_for PassesOwn.never rfl (pi_enum (by rfl) T.n_enumerate (pa_cons (pv 2) pa_nil)) (pg_tup rfl (pgs_cons (pg_name (i := 5) nd rfl (.inl rfl)) (pgs_cons (pg_name (i := 4) nd rfl (.inl rfl)) (pgs_nil))))
      (pss_cons (ps_if (PW.pt (pw_and (pt_cmpR op_eq (pe_ix (r := rIxT K) ix_tup (pv 4) (pe_int) (fun _ _ => rfl)) (pe_str) (nomark _)) (pw_and1 (pt_cmpR op_ge (pe_ix (r := rIxT K) ix_tup (pv 4) (pe_int) (fun _ _ => rfl)) (pe_callB call_lenG (by rfl) T.n_len (by decide +kernel) (pa_cons (pv 2) pa_nil)) (nomark _))))) (pss_cons ps_never (pss_nil)) (pss_nil))
      (pss_nil)))
      (pss_cons (ps_ret (pe_tup (pa_cons (pe_ix (r := rIxL K) ix_list (pv 1) (pe_int) (fun _ _ => rfl)) (pa_cons (pe_ix (r := rIxL K) ix_list (pv 1) (pe_int) (fun _ _ => rfl)) (pa_cons (pe_callTy call_tupG (by rfl) T.n_tuple (by decide +kernel) (pa_cons (pv 2) pa_nil)) pa_nil)))))
      (pss_nil))))))), ?_⟩
  rintro ⟨lines, _⟩ hpre B S0 Q hret
  show At _ _ _ _ [.im lines, .no, .no, .no, .no, .no]
  obtain ⟨g, gk, hg⟩ := hpre
  dsimp only at hg
  have hgl : lines.length = g.c.l.length + 1 := by rw [hg]; exact lines_len gk
  have m0 := gk.m0
  have m1 := gk.m1
  refine qg_set 1 (ev_call (ea_cons (ev_ix (ev_var (i := 0) rfl) (ev_int) (by first | (exact ⟨by decide, by omega⟩) | (rw [hhi]; exact ⟨by decide, by show (_ : Int) < ((2 : Nat) : Int); decide⟩) | (dsimp only; rw [hit]; exact dats_bd _) | (dsimp only at hc0; rw [hit] at hc0; dsimp only; rw [hit]; exact jump_bd hc0))) (ea_nil)) (by rw [hg]; exact Nat.le_trans (lines_ok gk _ (ix_mem (by decide) (by rw [lines_len gk]; omega))).1 (by decide))) rfl fun head h_head => ?_
  have hh : head = .lst [.int g.a, .int g.b] := by rw [h_head, hg]; exact head_read gk
  have hhi : head.items = [.int g.a, .int g.b] := by rw [hh]; rfl
  refine q_ifF (et_B (ev_isND (ev_var (i := 1) rfl))) ?_ ?_
  · rw [hh]; rfl
  refine qg_own 2 (el_lst (els_nil (α := Dat)) (by simp)) rfl fun rows h_rows => ?_
  refine qg_inv (fun st_ : (List Dat) => [.im lines, .im head, .ow st_, .no, .no, .no]) (fun pre (st : List Dat) => st = pre.map (rowR head.items)) rows (it_list (EvL.ev (el_slice (EvX.c (ev_var (i := 0) rfl)) (eo_some (ev_int)) eo_none))) (.k (.k (.k (.d (.d (.d .n)))))) (by rw [h_rows]; rfl) (fun pre0 line post0 s0 ex0 hs0 Sb0 rb0 => ⟨_, _, tg_name rfl, ?_⟩) (fun s0 hs0 => ?_)
  ·
    show At _ _ _ _ [.im lines, .im head, .ow s0, .im line, .no, .no]
    have hpl : pre0.length < g.c.l.length := by have := congrArg List.length ex0; rw [cut_len1] at this; simp at this; omega
    refine qg_set 4 (ev_call (ea_cons (EvX.asLT (ev_var (i := 1) rfl) (by rw [hh]; rfl)) (ea_cons (ev_var (i := 3) rfl) (ea_nil))) (by rw [hhi]; exact ⟨⟨Nat.le_refl 2, rfl, rfl⟩, Nat.le_trans (lines_ok gk _ (by rw [← hg]; exact cut_memT (mem_midT ex0))).1 (by decide)⟩)) rfl fun row h_row => ?_
    obtain ⟨r_, hr1, hr2, hr3⟩ := ln_row gk (by rw [← hg]; exact mem_midT ex0)
    rw [hhi] at h_row
    have hrow : row = .tup r_.dats := by rw [h_row]; exact hr3
    refine q_ifF (et_or (et_B (ev_isND (ev_var (i := 4) rfl))) (fun hc0 => et_test (ev_eq (ev_len (ec_own (i := 2) rfl)) (ev_int)))) ?_ ?_
    · rw [hrow]; exact decide_eq_false (by rw [hs0, List.length_map]; omega)
    refine qg_app 2 rfl (ev_var (i := 4) rfl) rfl (by exact lt_line (by rw [hs0, List.length_map]; omega)) fun rows1 h_rows1 => ?_
    exact q_next (at_mid (.k (.k (.k (.d (.d (.d .n)))))) ⟨rows1, by rfl, by rw [h_rows1, hs0, hhi, List.map_append, h_row]; rfl⟩)
  ·
    show At _ _ _ _ [.im lines, .im head, .ow s0, .no, .no, .no]
    have hrl : s0.length = g.c.l.length := by rw [hs0, List.length_map, cut_len1]; omega
    refine q_ifF (et_test (ev_eqNl (ec_own (i := 2) rfl))) ?_ ?_
    · exact decide_eq_false (by rw [hrl]; omega)
    refine at_relL (i := 2) rfl ?_
    refine qg_inv (fun st_ : Unit => [.im lines, .im head, .im s0, .no, .no, .no]) (fun _ (_ : Unit) => True) () (it_enum (ev_var (i := 2) rfl)) (.k (.k (.k (.d (.d (.d .n)))))) (by trivial) (fun pre1 it post1 s1 ex1 hs1 Sb1 rb1 => ⟨_, _, tg_pair (tg_name rfl) (tg_name rfl), ?_⟩) (fun s1 hs1 => ?_)
    ·
      show At _ _ _ _ [.im lines, .im head, .im s0, .no, .im it.2, .im it.1]
      obtain ⟨r_, hr1, hr2⟩ := ln_mem gk (by rw [← hg]; exact hs0) hhi (enum_inT ex1)
      have hit : it.2.items = r_.dats := by rw [hr2]; rfl
      refine q_ifF (et_and (et_test (ev_eq (EvX.asS (ev_ixT (EvX.asT (ev_var (i := 4) rfl) (by rw [hr2]; rfl)) (ev_int) (by first | (exact ⟨by decide, by omega⟩) | (rw [hhi]; exact ⟨by decide, by show (_ : Int) < ((2 : Nat) : Int); decide⟩) | (dsimp only; rw [hit]; exact dats_bd _) | (dsimp only at hc0; rw [hit] at hc0; dsimp only; rw [hit]; exact jump_bd hc0))) (by rw [hit]; rfl)) (ev_str))) (fun hc0 => et_test (ev_b0 (EvX.asI (ev_ixT (EvX.asT (ev_var (i := 4) rfl) (by rw [hr2]; rfl)) (ev_int) (by first | (exact ⟨by decide, by omega⟩) | (rw [hhi]; exact ⟨by decide, by show (_ : Int) < ((2 : Nat) : Int); decide⟩) | (dsimp only; rw [hit]; exact dats_bd _) | (dsimp only at hc0; rw [hit] at hc0; dsimp only; rw [hit]; exact jump_bd hc0))) (by dsimp only at hc0; rw [hit] at hc0; dsimp only; rw [hit]; exact jump_int hc0)) (ev_len (EvX.c (ev_var (i := 2) rfl)))))) ?_ ?_
      · rw [hit]; exact jump_no gk hr1 hrl
      exact q_next (at_mid (.k (.k (.k (.d (.d (.d .n)))))) ⟨(), by rfl, by trivial⟩)
    ·
      show At _ _ _ _ [.im lines, .im head, .im s0, .no, .no, .no]
      exact q_ret (EvX.dat (ev_tp (els_cons (ev_ix (EvX.asLT (ev_var (i := 1) rfl) (by rw [hh]; rfl)) (ev_int) (by first | (exact ⟨by decide, by omega⟩) | (rw [hhi]; exact ⟨by decide, by show (_ : Int) < ((2 : Nat) : Int); decide⟩) | (dsimp only; rw [hit]; exact dats_bd _) | (dsimp only at hc0; rw [hit] at hc0; dsimp only; rw [hit]; exact jump_bd hc0))) (els_cons (ev_ix (EvX.asLT (ev_var (i := 1) rfl) (by rw [hh]; rfl)) (ev_int) (by first | (exact ⟨by decide, by omega⟩) | (rw [hhi]; exact ⟨by decide, by show (_ : Int) < ((2 : Nat) : Int); decide⟩) | (dsimp only; rw [hit]; exact dats_bd _) | (dsimp only at hc0; rw [hit] at hc0; dsimp only; rw [hit]; exact jump_bd hc0))) (els_cons (EvX.dat (ev_tup (EvX.c (ev_var (i := 2) rfl)))) (els_nil)))) (by simp))) (hret _ _ (by unfold linesD; dsimp only at h_head ⊢; rw [← h_head, hs0, tup_dat, tup_dat]))
end
theorem sc_read_program : FnScope ["text"] ["text"] (defScope s_read_program) := ⟨rfl, rfl, rfl, by decide +kernel, rfl, by decide +kernel, by decide +kernel⟩
section
variable {P : Program} {w : World} {K : Fg} {mg : Str → Option Value} {base : Heap}
set_option maxHeartbeats 4000000 in
theorem ok_read_program (T : Tx K mg w) (c_read_lines : Cal P w K mg base 3 "read_lines" ["lines"] (spF K (fun a : (List Str) × Unit => linesD a.1) (fun a => LnP a.1))) : Cal P w K mg base 4 "read_program" ["text"] (spF K (fun a : Str × Unit => linesD (Txt.split a.1 "\n")) (fun a => TxP a.1)) := by
  have nd := sc_read_program.nd
  refine def_spF (k := 3) T.d_read_program sc_read_program rfl fun fa cdv A outer s H E hr => ?_
  refine ⟨_, pss_cons (ps_ret (pe_cal c_read_lines hr (by decide) (by rfl) (pa_cons (pe_m1 (r := rSplitS) F.slot_str_split F.type_str_split mt_split (pv 0) (pe_str)) pa_nil)))
      (pss_nil), ?_⟩
  rintro ⟨text, _⟩ hpre B S0 Q hret
  show At _ _ _ _ [.im text]
  obtain ⟨g, gk, hg⟩ := hpre
  dsimp only at hg
  exact q_ret (ev_call (ea_cons (EvL.ev (el_splitS (ev_var (i := 0) rfl) (ev_str) (by decide +kernel) (by exact le_line2 (by rw [hg]; have := text_len gk; omega)))) (ea_nil)) (by exact ⟨g, gk, by dsimp only; rw [hg]; exact text_split gk⟩)) (hret _ _ (by rfl))
end
theorem sc__law_pen : FnScope ["script"] ["script"] (defScope s__law_pen) := ⟨rfl, rfl, rfl, by decide +kernel, rfl, by decide +kernel, by decide +kernel⟩
section
variable {P : Program} {w : World} {K : Fg} {mg : Str → Option Value} {base : Heap}
set_option maxHeartbeats 4000000 in
theorem ok__law_pen (T : Tx K mg w)  : Cal P w K mg base 1 "_law_pen" ["script"] (spPen K) := by
  have nd := sc__law_pen.nd
  refine def_pen (k := 0) T.d__law_pen sc__law_pen rfl fun fa cdv A outer s H E hr => ?_
  refine ⟨_, pss_cons (ps_ret (pe_lst (pa_cons (pe_callTy call_listG (by rfl) T.n_list (by decide +kernel) (pa_cons (pe_slice sl_list (pv 0) po_none (po_some (pe_int))) pa_nil)) (pa_cons (pe_int) (pa_cons (pe_int) pa_nil)))))
      (pss_nil), ?_⟩
  intro script hpre B S0 Q hret
  show At _ _ _ _ [.im script]
  exact q_retPen (el_list (EvL.c (el_sliceS (ev_var (i := 0) rfl) eo_none (eo_some (ev_int))))) (fun S_ σ_ H_ F_ p_ q_ k1 a1 a2 a3 a4 a5 a6 => hret _ _ S_ σ_ H_ F_ p_ q_ (by exact pen_cut hpre _ _) k1 a1 a2 a3 a4 a5 a6)
end
theorem sc__law_take : FnScope ["pen", "many", "at", "cell", "one", "two", "three", "found"] ["pen", "many"] (defScope s__law_take) := ⟨rfl, rfl, rfl, by decide +kernel, rfl, by decide +kernel, by decide +kernel⟩
section
variable {P : Program} {w : World} {K : Fg} {mg : Str → Option Value} {base : Heap}
set_option maxHeartbeats 4000000 in
theorem ok__law_take (T : Tx K mg w)  : Cal P w K mg base 1 "_law_take" ["pen", "many"] (spM K (fun (z : Pen) (a : Int × Unit) => penTake z a.1) (fun z a => 0 < a.1 ∧ a.1 < 1073741824)) := by
  have nd := sc__law_take.nd
  refine def_spM (k := 0) T.d__law_take sc__law_take rfl (fun z a _ => pen_fp z a.1) fun fa cdv A outer s H E hr => ?_
  refine ⟨_, Evl.pss_cut (ps_if (pt_cmpR op_eq (pe_ix (r := rIxL K) ix_list (pv 0) (pe_int) (fun _ _ => rfl)) (pe_int) (nomark _)) (pss_cons (ps_set (i := 2) nd rfl (.inl rfl) (pe_ix (r := rIxL K) ix_list (pv 0) (pe_int) (fun _ _ => rfl)))
      (pss_cons (ps_asg (pe_op op_add (pv 2) (pe_int)) (pg_sub (pv 0) pe_int set_list))
      (pss_cons (ps_set (i := 3) nd rfl (.inl rfl) (pe_int))
      (Evl.pss_cut (ps_if (pt_cmpR op_lt (pv 2) (pe_callB call_lenG (by rfl) T.n_len (by decide +kernel) (pa_cons (pe_ix (r := rIxL K) ix_list (pv 0) (pe_int) (fun _ _ => rfl)) pa_nil)) (nomark _)) (pss_cons (ps_set (i := 3) nd rfl (.inl rfl) (pe_ix (r := rIxL K) ix_list (pe_ix (r := rIxL K) ix_list (pv 0) (pe_int) (fun _ _ => rfl)) (pv 2) (fun _ _ => rfl)))
      (pss_nil)) (Evl.pss_cut (ps_if (pt_cmpR op_gt (pe_callB call_lenG (by rfl) T.n_len (by decide +kernel) (pa_cons (pe_ix (r := rIxL K) ix_list (pv 0) (pe_int) (fun _ _ => rfl)) pa_nil)) (pe_int) (nomark _)) (pss_cons (ps_set (i := 3) nd rfl (.inl rfl) (pe_op op_add (pe_op op_mod (pe_ix (r := rIxL K) ix_list (pe_ix (r := rIxL K) ix_list (pv 0) (pe_int) (fun _ _ => rfl)) (pe_op op_mod (pe_op op_mul (pv 2) (pe_int)) (pe_callB call_lenG (by rfl) T.n_len (by decide +kernel) (pa_cons (pe_ix (r := rIxL K) ix_list (pv 0) (pe_int) (fun _ _ => rfl)) pa_nil))) (fun _ _ => rfl)) (pe_int)) (pe_op op_mul (pe_int) (pv 2))))
      (pss_nil)) (pss_nil))
      (pss_nil)))
      (pss_cons (ps_set (i := 4) nd rfl (.inl rfl) (pe_op op_mod (pe_op op_mul (pe_op op_add (pe_op op_add (pe_op op_mod (pv 3) (pe_int)) (pe_op op_mul (pe_int) (pv 2))) (pe_int)) (pe_int)) (pe_int)))
      (pss_cons (ps_set (i := 5) nd rfl (.inl rfl) (pe_op op_mod (pe_op op_add (pe_op op_add (pe_op op_mul (pv 4) (pv 4)) (pe_op op_mul (pe_int) (pv 2))) (pe_int)) (pe_int)))
      (pss_cons (ps_set (i := 6) nd rfl (.inl rfl) (pe_op op_mod (pe_op op_add (pe_op op_mul (pv 5) (pv 5)) (pv 4)) (pe_int)))
      (pss_cons (ps_asg (pe_op op_add (pe_op op_fdiv (pe_op op_add (pe_op op_mul (pv 5) (pe_int)) (pv 6)) (pe_int)) (pe_int)) (pg_sub (pv 0) pe_int set_list))
      (Evl.pss_cut (ps_if (pt_cmpR op_ge (pv 3) (pe_op op_pow (pe_int) (pe_int)) (nomark _)) (pss_cons (ps_asg (pe_op op_fdivW (pv 3) (pe_op op_pow (pe_int) (pe_int))) (pg_sub (pv 0) pe_int set_list))
      (pss_nil)) (pss_nil))
      (pss_nil)))))))))) (pss_nil))
      (pss_cons (ps_set (i := 7) nd rfl (.inl rfl) (pe_op op_mod (pe_ix (r := rIxL K) ix_list (pv 0) (pe_int) (fun _ _ => rfl)) (pv 1)))
      (pss_cons (ps_asg (pe_op op_fdiv (pe_ix (r := rIxL K) ix_list (pv 0) (pe_int) (fun _ _ => rfl)) (pv 1)) (pg_sub (pv 0) pe_int set_list))
      (pss_cons (ps_ret (pv 7))
      (pss_nil)))), ?_⟩
  rintro pen ⟨many, _⟩ hpre B S0 Q hret
  show At _ _ _ _ [.ow pen, .im many, .no, .no, .no, .no, .no, .no]
  obtain ⟨h0, h1⟩ := hpre
  dsimp only at h0 h1
  refine q_cutI (fun st_ : Pen => [.ow st_, .im many, .no, .no, .no, .no, .no, .no]) (fun st => st = fillM pen) ?_ (fun sI0 hI_0 => ?_)
  · refine q_ifc (et_test (ev_eq (ev_pen2 (i := 0) rfl) (ev_int))) (fun hb0 => ?_) (fun hb0 => ?_)
    ·
      refine qg_set 2 (ev_pen1 (i := 0) rfl) rfl fun at_ h_at_ => ?_
      refine q_pen1 (i := 0) (pen.p + 1) (ev_i0 (ev_var (i := 2) rfl) (ev_int)) rfl (by subst_vars; rfl) ?_
      refine at_genO 0 rfl fun pen1 h_pen1 => ?_
      show At _ _ _ _ [.ow pen1, .im many, .im at_, .no, .no, .no, .no, .no]
      refine qg_set 3 (ev_int) rfl fun cell h_cell => ?_
      refine q_cut1 [.ow pen1, .im many, .im at_, .im (cellM pen.l pen.p), .no, .no, .no, .no] ?_ ?_
      · refine q_ifc (et_test (ev_b0 (ev_var (i := 2) rfl) (ev_penLen (i := 0) rfl))) (fun hb1 => ?_) (fun hb1 => ?_)
        ·
          refine qg_set 3 (ev_penAt (i := 0) rfl (ev_var (i := 2) rfl) (by exact ⟨by omega, of_decide_eq_true hb1⟩)) rfl fun cell1 h_cell1 => ?_
          refine q_next ?_
          exact at_mid (.k (.k (.k (.k (.d (.d (.d (.d .n)))))))) (by have e : cell1 = cellM pen.l pen.p := (by subst_vars; unfold cellM; exact (if_pos hb1).symm); rw [e])
        ·
          refine q_cut1 [.ow pen1, .im many, .im at_, .im (cellM pen.l pen.p), .no, .no, .no, .no] ?_ ?_
          · refine q_ifc (et_test (ev_b0 (ev_penLen (i := 0) rfl) (ev_int))) (fun hb2 => ?_) (fun hb2 => ?_)
            ·
              refine qg_set 3 (ev_i0 (ev_iC (ev_penAt (i := 0) rfl (ev_iC (ev_iC (ev_var (i := 2) rfl) (ev_int) (by first | exact .inl ⟨by decide, by decide⟩ | exact .inr ⟨by decide, by decide⟩ | exact .inl ⟨by omega, by omega⟩ | exact .inr ⟨by omega, by omega⟩)) (ev_penLen (i := 0) rfl) (by exact of_decide_eq_true hb2)) (by exact emod_bd _ (of_decide_eq_true hb2))) (ev_int) (by first | decide | (show (0 : Int) < _; omega))) (ev_iC (ev_int) (ev_var (i := 2) rfl) (by first | exact .inl ⟨by decide, by decide⟩ | exact .inr ⟨by decide, by decide⟩ | exact .inl ⟨by omega, by omega⟩ | exact .inr ⟨by omega, by omega⟩))) rfl fun cell2 h_cell2 => ?_
              refine q_next ?_
              exact at_mid (.k (.k (.k (.k (.d (.d (.d (.d .n)))))))) (by have e : cell2 = cellM pen.l pen.p := (by subst_vars; unfold cellM; rw [if_neg (by rw [hb1]; decide), if_pos hb2]); rw [e])
            ·
              refine q_next ?_
              exact at_mid (.k (.k (.k (.k (.d (.d (.d (.d .n)))))))) (by have e : cell = cellM pen.l pen.p := (by subst_vars; unfold cellM; rw [if_neg (by rw [hb1]; decide), if_neg (by rw [hb2]; decide)]); rw [e])
          refine at_gen 3 rfl fun cell3 h_cell3 => ?_
          refine q_next ?_
          exact at_mid (.k (.k (.k (.k (.d (.d (.d (.d .n)))))))) (by rw [h_cell3])
      refine at_gen 3 rfl fun cell4 h_cell4 => ?_
      refine qg_set 4 (ev_iC (ev_iC (ev_i0 (ev_i0 (ev_iC (ev_var (i := 3) rfl) (ev_int) (by first | decide | (show (0 : Int) < _; omega))) (ev_iC (ev_int) (ev_var (i := 2) rfl) (by first | exact .inl ⟨by decide, by decide⟩ | exact .inr ⟨by decide, by decide⟩ | exact .inl ⟨by omega, by omega⟩ | exact .inr ⟨by omega, by omega⟩))) (ev_int)) (ev_int) (by first | exact .inl ⟨by decide, by decide⟩ | exact .inr ⟨by decide, by decide⟩ | exact .inl ⟨by omega, by omega⟩ | exact .inr ⟨by omega, by omega⟩)) (ev_int) (by first | decide | (show (0 : Int) < _; omega))) rfl fun one h_one => ?_
      have bone : 0 ≤ one ∧ one < 2147483647 := by rw [h_one]; exact emod_bd _ (by decide)
      refine qg_set 5 (ev_iC (ev_i0 (ev_i0 (ev_iC (ev_var (i := 4) rfl) (ev_var (i := 4) rfl) (by first | exact .inl ⟨by decide, by decide⟩ | exact .inr ⟨by decide, by decide⟩ | exact .inl ⟨by omega, by omega⟩ | exact .inr ⟨by omega, by omega⟩)) (ev_iC (ev_int) (ev_var (i := 2) rfl) (by first | exact .inl ⟨by decide, by decide⟩ | exact .inr ⟨by decide, by decide⟩ | exact .inl ⟨by omega, by omega⟩ | exact .inr ⟨by omega, by omega⟩))) (ev_int)) (ev_int) (by first | decide | (show (0 : Int) < _; omega))) rfl fun two h_two => ?_
      have btwo : 0 ≤ two ∧ two < 998244353 := by rw [h_two]; exact emod_bd _ (by decide)
      refine qg_set 6 (ev_iC (ev_i0 (ev_iC (ev_var (i := 5) rfl) (ev_var (i := 5) rfl) (by first | exact .inl ⟨by decide, by decide⟩ | exact .inr ⟨by decide, by decide⟩ | exact .inl ⟨by omega, by omega⟩ | exact .inr ⟨by omega, by omega⟩)) (ev_var (i := 4) rfl)) (ev_int) (by first | decide | (show (0 : Int) < _; omega))) rfl fun three h_three => ?_
      refine q_pen2 (i := 0) (ev_i0 (ev_iC (ev_i0 (ev_iC (ev_var (i := 5) rfl) (ev_int) (by first | exact .inl ⟨by decide, by decide⟩ | exact .inr ⟨by decide, by decide⟩ | exact .inl ⟨by omega, by omega⟩ | exact .inr ⟨by omega, by omega⟩)) (ev_var (i := 6) rfl)) (ev_int) (by first | exact ⟨by decide, by decide⟩ | exact ⟨by omega, by omega⟩)) (ev_int)) rfl ?_
      refine at_genO 0 rfl fun pen2 h_pen2 => ?_
      show At _ _ _ _ [.ow pen2, .im many, .im at_, .im cell4, .im one, .im two, .im three, .no]
      refine q_cutI (fun st_ : Pen => [.ow st_, .im many, .im at_, .im cell4, .im one, .im two, .im three, .no]) (fun st => st = Pen.mk pen.a pen.q pen.l (pen.p + 1) (drawM cell4 pen.p)) ?_ (fun sI3 hI_3 => ?_)
      · refine q_ifc (et_test (ev_b0 (ev_var (i := 3) rfl) (ev_iC (ev_int) (ev_int) (by exact ⟨by decide, by decide, by decide⟩)))) (fun hb3 => ?_) (fun hb3 => ?_)
        ·
          refine q_pen2 (i := 0) (ev_iC (ev_var (i := 3) rfl) (ev_iC (ev_int) (ev_int) (by exact ⟨by decide, by decide, by decide⟩)) (by exact ⟨by decide, by decide⟩)) rfl ?_
          refine at_genO 0 rfl fun pen3 h_pen3 => ?_
          show At _ _ _ _ [.ow pen3, .im many, .im at_, .im cell4, .im one, .im two, .im three, .no]
          refine q_next ?_
          exact at_mid (.k (.k (.k (.k (.k (.k (.k (.d .n)))))))) ⟨pen3, rfl, by subst_vars; unfold drawM; rw [if_pos hb3]⟩
        ·
          refine q_next ?_
          exact at_mid (.k (.k (.k (.k (.k (.k (.k (.d .n)))))))) ⟨pen2, rfl, by subst_vars; unfold drawM twoM oneM; rw [if_neg (by rw [hb3]; decide)]⟩
      ·
        show At _ _ _ _ [.ow sI3, .im many, .im at_, .im cell4, .im one, .im two, .im three, .no]
        refine q_next ?_
        exact at_mid (.k (.k (.d (.d (.d (.d (.d (.d .n)))))))) ⟨sI3, rfl, by unfold fillM; rw [if_pos hb0, hI_3, h_cell4]⟩
    ·
      refine q_next ?_
      exact at_mid (.k (.k (.d (.d (.d (.d (.d (.d .n)))))))) ⟨pen, rfl, by unfold fillM; rw [if_neg (by rw [hb0]; decide)]⟩
  ·
    show At _ _ _ _ [.ow sI0, .im many, .no, .no, .no, .no, .no, .no]
    refine qg_set 7 (ev_iC (ev_pen2 (i := 0) rfl) (ev_var (i := 1) rfl) (by first | decide | (show (0 : Int) < _; omega))) rfl fun found h_found => ?_
    refine q_pen2 (i := 0) (ev_iC (ev_pen2 (i := 0) rfl) (ev_var (i := 1) rfl) (by first | exact ⟨by decide, by decide⟩ | exact ⟨by omega, by omega⟩)) rfl ?_
    refine at_genO 0 rfl fun pen6 h_pen6 => ?_
    show At _ _ _ _ [.ow pen6, .im many, .no, .no, .no, .no, .no, .im found]
    exact q_ret (ev_var (i := 7) rfl) (hret _ _ _ rfl (by rw [h_found, h_pen6, hI_0]; unfold penTake; rfl))
end
theorem sc__law_row : FnScope ["pen", "n", "w", "many", "takes", "way", "p"] ["pen", "n", "w", "many", "takes"] (defScope s__law_row) := ⟨rfl, rfl, rfl, by decide +kernel, rfl, by decide +kernel, by decide +kernel⟩
section
variable {P : Program} {w : World} {K : Fg} {mg : Str → Option Value} {base : Heap}
set_option maxHeartbeats 4000000 in
theorem ok__law_row (T : Tx K mg w) (c__law_take : Cal P w K mg base 1 "_law_take" ["pen", "many"] (spM K (fun (z : Pen) (a : Int × Unit) => penTake z a.1) (fun z a => 0 < a.1 ∧ a.1 < 1073741824))) : Cal P w K mg base 2 "_law_row" ["pen", "n", "w", "many", "takes"] (spM K (fun (z : Pen) (a : Int × Int × Int × Bool × Unit) => rowM z a.1 a.2.1 a.2.2.1 a.2.2.2.1) (fun z a => (0 < a.1 ∧ a.1 < 1000) ∧ (0 < a.2.1 ∧ a.2.1 < 1000) ∧ 0 < a.2.2.1 ∧ a.2.2.1 < 1000)) := by
  have nd := sc__law_row.nd
  refine def_spM (k := 1) T.d__law_row sc__law_row rfl (fun z a _ => row_fp z a.1 a.2.1 a.2.2.1 a.2.2.2.1) fun fa cdv A outer s H E hr => ?_
  refine ⟨_, pss_cons (ps_set (i := 5) nd rfl (.inl rfl) (pe_cal c__law_take hr (by decide) (by rfl) (pa_cons (pv 0) (pa_cons (pe_int) pa_nil))))
      (pss_cons (ps_set (i := 6) nd rfl (.inl rfl) (pe_cal c__law_take hr (by decide) (by rfl) (pa_cons (pv 0) (pa_cons (pv 1) pa_nil))))
      (pss_cons (ps_if (pt_cmpR op_lt (pv 5) (pe_int) (nomark _)) (pss_cons (ps_ret (pe_tup (pa_cons (pe_str) (pa_cons (pv 6) (pa_cons (pe_cal c__law_take hr (by decide) (by rfl) (pa_cons (pv 0) (pa_cons (pv 2) pa_nil))) pa_nil)))))
      (pss_nil)) (pss_nil))
      (pss_cons (ps_if (pt_cmpR op_lt (pv 5) (pe_int) (nomark _)) (pss_cons (ps_ret (pe_tup (pa_cons (pe_str) (pa_cons (pv 6) (pa_cons (pe_cal c__law_take hr (by decide) (by rfl) (pa_cons (pv 0) (pa_cons (pv 1) pa_nil))) pa_nil)))))
      (pss_nil)) (pss_nil))
      (pss_cons (ps_if (pt_cmpR op_lt (pv 5) (pe_int) (nomark _)) (pss_cons (ps_ret (pe_tup (pa_cons (pe_str) (pa_cons (pv 6) (pa_cons (pe_cal c__law_take hr (by decide) (by rfl) (pa_cons (pv 0) (pa_cons (pv 3) pa_nil))) pa_nil)))))
      (pss_nil)) (pss_nil))
      (pss_cons (ps_if (pt_cmpR op_lt (pv 5) (pe_int) (nomark _)) (pss_cons (ps_ret (pe_tup (pa_cons (pe_str) (pa_cons (pv 6) pa_nil))))
      (pss_nil)) (pss_nil))
      (pss_cons (ps_if (PW.pt (pw_and (pt_cmpR op_lt (pv 5) (pe_int) (nomark _)) (pw_and1 (pt_val (pv 4))))) (pss_cons (ps_ret (pe_tup (pa_cons (pe_str) (pa_cons (pv 6) pa_nil))))
      (pss_nil)) (pss_nil))
      (pss_cons (ps_if (pt_cmpR op_lt (pv 5) (pe_int) (nomark _)) (pss_cons (ps_ret (pe_tup (pa_cons (pe_str) (pa_cons (pv 6) (pa_cons (pv 6) pa_nil)))))
      (pss_nil)) (pss_nil))
      (pss_cons (ps_ret (pe_ix (r := rIxL K) ix_list (pe_lst (pa_cons (pe_tup (pa_cons (pe_str) pa_nil)) (pa_cons (pe_tup (pa_cons (pe_str) (pa_cons (pv 6) (pa_cons (pe_cal c__law_take hr (by decide) (by rfl) (pa_cons (pv 0) (pa_cons (pv 3) pa_nil))) pa_nil)))) (pa_cons (pe_tup (pa_cons (pe_str) (pa_cons (pv 6) pa_nil))) pa_nil)))) (pe_cal c__law_take hr (by decide) (by rfl) (pa_cons (pv 0) (pa_cons (pe_int) pa_nil))) (fun _ _ => rfl)))
      (pss_nil))))))))), ?_⟩
  rintro pen ⟨n, w, many, takes, _⟩ hpre B S0 Q hret
  show At _ _ _ _ [.ow pen, .im n, .im w, .im many, .im takes, .no, .no]
  obtain ⟨⟨n0, n1⟩, ⟨w0, w1⟩, m0, m1⟩ := hpre
  dsimp only at n0 n1 w0 w1 m0 m1
  refine qg_set 5 (ev_callM (i := 0) rfl (ea_cons (ev_int) (ea_nil)) rfl (by refine ⟨?_, ?_⟩ <;> first | decide | omega | (dsimp only; omega))) rfl fun way h_way => ?_
  refine at_genO 0 rfl fun pen1 h_pen1 => ?_
  have bd_way := pen_fact h_pen1 (by first | decide | omega | (dsimp only; omega))
  (try rw [← h_way] at bd_way); (try dsimp only at bd_way)
  show At _ _ _ _ [.ow pen1, .im n, .im w, .im many, .im takes, .im way, .no]
  refine qg_set 6 (ev_callM (i := 0) rfl (ea_cons (ev_var (i := 1) rfl) (ea_nil)) rfl (by refine ⟨?_, ?_⟩ <;> first | decide | omega | (dsimp only; omega))) rfl fun p h_p => ?_
  refine at_genO 0 rfl fun pen2 h_pen2 => ?_
  have bd_p := pen_fact h_pen2 (by first | decide | omega | (dsimp only; omega))
  (try rw [← h_p] at bd_p); (try dsimp only at bd_p)
  show At _ _ _ _ [.ow pen2, .im n, .im w, .im many, .im takes, .im way, .im p]
  refine q_if (et_test (ev_b0 (ev_var (i := 5) rfl) (ev_int))) (fun hb0 => ?_) (fun hb0 => ?_)
  ·
    exact q_ret (ev_mkrow2 (.set _ _) (ev_var (i := 6) rfl) (ev_callM (i := 0) rfl (ea_cons (ev_var (i := 2) rfl) (ea_nil)) rfl (by refine ⟨?_, ?_⟩ <;> first | decide | omega | (dsimp only; omega))) rfl) (hret _ _ _ rfl (by subst_vars; unfold rowM; dsimp only at *; rw [if_pos hb0]))
  ·
    refine q_next ?_
    refine q_if (et_test (ev_b0 (ev_var (i := 5) rfl) (ev_int))) (fun hb1 => ?_) (fun hb1 => ?_)
    ·
      exact q_ret (ev_mkrow2 (.add _ _) (ev_var (i := 6) rfl) (ev_callM (i := 0) rfl (ea_cons (ev_var (i := 1) rfl) (ea_nil)) rfl (by refine ⟨?_, ?_⟩ <;> first | decide | omega | (dsimp only; omega))) rfl) (hret _ _ _ rfl (by subst_vars; unfold rowM; dsimp only at *; rw [if_neg (by rw [hb0]; decide), if_pos hb1]))
    ·
      refine q_next ?_
      refine q_if (et_test (ev_b0 (ev_var (i := 5) rfl) (ev_int))) (fun hb2 => ?_) (fun hb2 => ?_)
      ·
        exact q_ret (ev_mkrow2 (.jump _ _) (ev_var (i := 6) rfl) (ev_callM (i := 0) rfl (ea_cons (ev_var (i := 3) rfl) (ea_nil)) rfl (by refine ⟨?_, ?_⟩ <;> first | decide | omega | (dsimp only; omega))) rfl) (hret _ _ _ rfl (by subst_vars; unfold rowM; dsimp only at *; rw [if_neg (by rw [hb0]; decide), if_neg (by rw [hb1]; decide), if_pos hb2]))
      ·
        refine q_next ?_
        refine q_if (et_test (ev_b0 (ev_var (i := 5) rfl) (ev_int))) (fun hb3 => ?_) (fun hb3 => ?_)
        ·
          exact q_ret (ev_mkrow1 (.say _) (ev_var (i := 6) rfl) rfl) (hret _ _ _ rfl (by subst_vars; unfold rowM; dsimp only at *; rw [if_neg (by rw [hb0]; decide), if_neg (by rw [hb1]; decide), if_neg (by rw [hb2]; decide), if_pos hb3]))
        ·
          refine q_next ?_
          refine q_if (et_and (et_test (ev_b0 (ev_var (i := 5) rfl) (ev_int))) (fun hc => et_B (ev_var (i := 4) rfl))) (fun hb4 => ?_) (fun hb4 => ?_)
          ·
            exact q_ret (ev_mkrow1 (.take _) (ev_var (i := 6) rfl) rfl) (hret _ _ _ rfl (by subst_vars; unfold rowM; dsimp only at *; rw [if_neg (by rw [hb0]; decide), if_neg (by rw [hb1]; decide), if_neg (by rw [hb2]; decide), if_neg (by rw [hb3]; decide), if_pos hb4]))
          ·
            refine q_next ?_
            refine q_if (et_test (ev_b0 (ev_var (i := 5) rfl) (ev_int))) (fun hb5 => ?_) (fun hb5 => ?_)
            ·
              exact q_ret (ev_mkrow2 (.add _ _) (ev_var (i := 6) rfl) (ev_var (i := 6) rfl) rfl) (hret _ _ _ rfl (by subst_vars; unfold rowM; dsimp only at *; rw [if_neg (by rw [hb0]; decide), if_neg (by rw [hb1]; decide), if_neg (by rw [hb2]; decide), if_neg (by rw [hb3]; decide), if_neg (by rw [hb4]; decide), if_pos hb5]))
            ·
              refine q_next ?_
              exact q_ret (ev_ix (EvL.ev (el_lst (els_cons (ev_mkrow0 (.fin) rfl) (els_cons (ev_mkrow2 (.jump _ _) (ev_var (i := 6) rfl) (ev_callM (i := 0) rfl (ea_cons (ev_var (i := 3) rfl) (ea_nil)) rfl (by refine ⟨?_, ?_⟩ <;> first | decide | omega | (dsimp only; omega))) rfl) (els_cons (ev_mkrow1 (.say _) (ev_var (i := 6) rfl) rfl) (els_nil)))) (by simp))) (ev_callM (i := 0) rfl (ea_cons (ev_int) (ea_nil)) rfl (by refine ⟨?_, ?_⟩ <;> first | decide | omega | (dsimp only; omega))) (by exact pen_bd _ (by decide))) (hret _ _ _ rfl (by subst_vars; unfold rowM; dsimp only at *; rw [if_neg (by rw [hb0]; decide), if_neg (by rw [hb1]; decide), if_neg (by rw [hb2]; decide), if_neg (by rw [hb3]; decide), if_neg (by rw [hb4]; decide), if_neg (by rw [hb5]; decide)]))
end
theorem sc__law_program : FnScope ["pen", "takes", "n", "w", "many", "k"] ["pen", "takes"] (defScope s__law_program) := ⟨rfl, rfl, rfl, by decide +kernel, rfl, by decide +kernel, by decide +kernel⟩
section
variable {P : Program} {w : World} {K : Fg} {mg : Str → Option Value} {base : Heap}
set_option maxHeartbeats 4000000 in
theorem ok__law_program (T : Tx K mg w) (c__law_row : Cal P w K mg base 2 "_law_row" ["pen", "n", "w", "many", "takes"] (spM K (fun (z : Pen) (a : Int × Int × Int × Bool × Unit) => rowM z a.1 a.2.1 a.2.2.1 a.2.2.2.1) (fun z a => (0 < a.1 ∧ a.1 < 1000) ∧ (0 < a.2.1 ∧ a.2.1 < 1000) ∧ 0 < a.2.2.1 ∧ a.2.2.1 < 1000))) (c__law_take : Cal P w K mg base 1 "_law_take" ["pen", "many"] (spM K (fun (z : Pen) (a : Int × Unit) => penTake z a.1) (fun z a => 0 < a.1 ∧ a.1 < 1073741824))) : Cal P w K mg base 3 "_law_program" ["pen", "takes"] (spRP K (fun (a : Bool × Unit) (y : (T3 Int Int (Tp WRow))) => ProgOk y ∧ ∀ r ∈ y.c.l, RowT a.1 r) (fun a => True)) := by
  have nd := sc__law_program.nd
  refine def_spRP (k := 2) T.d__law_program sc__law_program rfl fun fa cdv A outer s H E hr => ?_
  refine ⟨_, pss_cons (ps_set (i := 2) nd rfl (.inr rfl) (pe_op op_add (pe_int) (pe_cal c__law_take hr (by decide) (by rfl) (pa_cons (pv 0) (pa_cons (pe_ix (r := rIxL K) ix_list (pe_lst (pa_cons (pe_int) (pa_cons (pe_int) pa_nil))) (pe_cal c__law_take hr (by decide) (by rfl) (pa_cons (pv 0) (pa_cons (pe_int) pa_nil))) (fun _ _ => rfl)) pa_nil)))))
      (pss_cons (ps_set (i := 3) nd rfl (.inr rfl) (pe_ix (r := rIxL K) ix_list (pe_lst (pa_cons (pe_int) (pa_cons (pe_int) (pa_cons (pe_int) (pa_cons (pe_int) (pa_cons (pe_op op_add (pe_int) (pe_cal c__law_take hr (by decide) (by rfl) (pa_cons (pv 0) (pa_cons (pe_int) pa_nil)))) pa_nil)))))) (pe_cal c__law_take hr (by decide) (by rfl) (pa_cons (pv 0) (pa_cons (pe_int) pa_nil))) (fun _ _ => rfl)))
      (pss_cons (ps_set (i := 4) nd rfl (.inr rfl) (pe_op op_add (pe_int) (pe_cal c__law_take hr (by decide) (by rfl) (pa_cons (pv 0) (pa_cons (pe_ix (r := rIxL K) ix_list (pe_lst (pa_cons (pe_int) (pa_cons (pe_int) (pa_cons (pe_int) pa_nil)))) (pe_cal c__law_take hr (by decide) (by rfl) (pa_cons (pv 0) (pa_cons (pe_int) pa_nil))) (fun _ _ => rfl)) pa_nil)))))
      (pss_cons (ps_ret (pe_tup (pa_cons (pv 2) (pa_cons (pv 3) (pa_cons (pe_callTy call_tupG (by rfl) T.n_tuple (by decide +kernel) (pa_cons (pe_lc (own := [("k", 5)]) (g := gName 5) (by rfl) nd (pi_range1 (by rfl) T.n_range (pa_cons (pv 4) pa_nil)) (blkOk_by (N := ["pen", "takes", "n", "w", "many", "k"]) (sc := defScope s__law_program) (by decide +kernel)) (fun _ _ _ _ _ => pg_name (i := 5) nd rfl (.inl rfl) (.inr rfl)) (fun _ _ _ _ _ => pts_nil) (fun _ _ _ _ _ => pe_cal c__law_row hr (by decide) (by rfl) (pa_cons (pv 0) (pa_cons (pv 2) (pa_cons (pv 3) (pa_cons (pv 4) (pa_cons (pv 1) pa_nil))))))) pa_nil)) pa_nil)))))
      (pss_nil)))), ?_⟩
  rintro pen ⟨takes, _⟩ hpre B S0 Q hret
  show At _ _ _ _ [.ow pen, .im takes, .no, .no, .no, .no]
  refine qg_set 2 (ev_i0 (ev_int) (ev_callM (i := 0) rfl (ea_cons (ev_ix (EvL.ev (el_lst (els_cons (ev_int) (els_cons (ev_int) (els_nil))) (by simp))) (ev_callM (i := 0) rfl (ea_cons (ev_int) (ea_nil)) rfl (by refine ⟨?_, ?_⟩ <;> first | decide | omega | (dsimp only; omega))) (by exact pen_bd _ (by decide))) (ea_nil)) rfl (by exact pick2 (fun v => 0 < v ∧ v < 1073741824) (pen_bd _ (by decide)) (by decide) (by decide)))) rfl fun n h_n => ?_
  refine at_genO 0 rfl fun pen1 h_pen1 => ?_
  show At _ _ _ _ [.ow pen1, .im takes, .im n, .no, .no, .no]
  have hn : 1 ≤ n ∧ n ≤ 12 := by rw [h_n]; exact dr_n pen
  refine qg_set 3 (ev_ix (EvL.ev (el_lst (els_cons (ev_int) (els_cons (ev_int) (els_cons (ev_int) (els_cons (ev_int) (els_cons (ev_i0 (ev_int) (ev_callM (i := 0) rfl (ea_cons (ev_int) (ea_nil)) rfl (by refine ⟨?_, ?_⟩ <;> first | decide | omega | (dsimp only; omega)))) (els_nil)))))) (by simp))) (ev_callM (i := 0) rfl (ea_cons (ev_int) (ea_nil)) rfl (by refine ⟨?_, ?_⟩ <;> first | decide | omega | (dsimp only; omega))) (by exact pen_bd _ (by decide))) rfl fun w h_w => ?_
  refine at_genO 0 rfl fun pen2 h_pen2 => ?_
  show At _ _ _ _ [.ow pen2, .im takes, .im n, .im w, .no, .no]
  have hw : 2 ≤ w ∧ w ≤ 100 := by
    rw [h_w]
    have := pen_bd pen1 (m := 99) (by decide)
    exact pick5 (fun v => 2 ≤ v ∧ v ≤ 100) (pen_bd _ (by decide)) (by decide) (by decide) (by decide) (by decide) (by dsimp only; omega)
  refine qg_set 4 (ev_i0 (ev_int) (ev_callM (i := 0) rfl (ea_cons (ev_ix (EvL.ev (el_lst (els_cons (ev_int) (els_cons (ev_int) (els_cons (ev_int) (els_nil)))) (by simp))) (ev_callM (i := 0) rfl (ea_cons (ev_int) (ea_nil)) rfl (by refine ⟨?_, ?_⟩ <;> first | decide | omega | (dsimp only; omega))) (by exact pen_bd _ (by decide))) (ea_nil)) rfl (by exact pick3 (fun v => 0 < v ∧ v < 1073741824) (pen_bd _ (by decide)) (by decide) (by decide) (by decide)))) rfl fun many h_many => ?_
  refine at_genO 0 rfl fun pen3 h_pen3 => ?_
  show At _ _ _ _ [.ow pen3, .im takes, .im n, .im w, .im many, .no]
  have hm : 1 ≤ many ∧ many ≤ 20 := by rw [h_many]; exact dr_m pen2
  exact q_ret (ev_t3 (ev_var (i := 2) rfl) (ev_var (i := 3) rfl) (ev_tup (EvL.c (el_lcE (fun st_ : Pen => [.ow st_, .im takes, .im n, .im w, .im many, .no]) _ (fun st_ x => (rowM st_ n w many takes).2) (fun st_ x => (rowM st_ n w many takes).1) (it_rng1 (ev_var (i := 4) rfl) (by first | omega | (dsimp only; omega))) (by first | omega | (dsimp only; omega) | (rw [len_rng]; omega) | (rw [len_rng]; exact le_line (by omega))) (fun x st_ hm_x => ⟨_, _, tg_name rfl, (by decide), _, ev_callM (i := 0) rfl (ea_cons (ev_var (i := 2) rfl) (ea_cons (ev_var (i := 3) rfl) (ea_cons (ev_var (i := 4) rfl) (ea_cons (ev_var (i := 1) rfl) (ea_nil))))) rfl (by exact ⟨⟨by dsimp only; omega, by dsimp only; omega⟩, ⟨by dsimp only; omega, by dsimp only; omega⟩, by dsimp only; omega, by dsimp only; omega⟩), .a (by decide) (.b rfl (.b rfl (.b rfl (.b rfl (.b rfl (.n))))))⟩))))) (hret _ _ _ rfl (by rw [prog_fp]; simp only [h_pen3, h_pen2, h_pen1, pen_fp]) (by exact prog_ok hn hw hm))
end
theorem sc__law_text : FnScope ["program", "lines", "row", "line", "part"] ["program"] (defScope s__law_text) := ⟨rfl, rfl, rfl, by decide +kernel, rfl, by decide +kernel, by decide +kernel⟩
section
variable {P : Program} {w : World} {K : Fg} {mg : Str → Option Value} {base : Heap}
set_option maxHeartbeats 4000000 in
theorem ok__law_text (T : Tx K mg w)  : Cal P w K mg base 1 "_law_text" ["program"] (spF K (fun a : (T3 Int Int (Tp WRow)) × Unit => textM a.1) (fun a => ProgOk a.1)) := by
  have nd := sc__law_text.nd
  refine def_spF (k := 0) T.d__law_text sc__law_text rfl fun fa cdv A outer s H E hr => ?_
  refine ⟨_, pss_cons (ps_set (i := 1) nd rfl (.inl rfl) (pe_lst (pa_cons (pe_op op_addS (pe_op op_addS (pe_callTy call_strI (by rfl) T.n_str (by decide +kernel) (pa_cons (pe_ix (r := rIxT K) ix_tup (pv 0) pe_int (fun _ _ => rfl)) pa_nil)) (pe_str)) (pe_callTy call_strI (by rfl) T.n_str (by decide +kernel) (pa_cons (pe_ix (r := rIxT K) ix_tup (pv 0) pe_int (fun _ _ => rfl)) pa_nil))) pa_nil)))
      (pss_cons (ps_for PassesOwn.never rfl (pi_tup (pe_ix (r := rIxT K) ix_tup (pv 0) pe_int (fun _ _ => rfl))) (pg_name (i := 2) nd rfl (.inl rfl))
      (pss_cons (ps_set (i := 3) nd rfl (.inl rfl) (pe_ix (r := rIxT K) ix_tup (pv 2) pe_int (fun _ _ => rfl)))
      (pss_cons (ps_for PassesOwn.never rfl (pi_tup (pe_slice sl_tupA (pv 2) (po_some (pe_int)) po_none)) (pg_name (i := 4) nd rfl (.inl rfl))
      (pss_cons (ps_set (i := 3) nd rfl (.inl rfl) (pe_op op_addS (pe_op op_addS (pv 3) (pe_str)) (pe_callTy call_strD (by rfl) T.n_str (by decide +kernel) (pa_cons (pv 4) pa_nil))))
      (pss_nil)))
      (pss_cons (ps_expr (pe_bm PySem.F.plainAttrs_list PySem.F.slot_list_append PySem.F.type_list_append mt_append (pv 1) (pa_cons (pv 3) pa_nil)))
      (pss_nil)))))
      (pss_cons (ps_ret (pe_m1 (r := rJoinS K) F.slot_str_join F.type_str_join mt_join (pe_str) (pv 1)))
      (pss_nil))), ?_⟩
  rintro ⟨program, _⟩ hpre B S0 Q hret
  show At _ _ _ _ [.im program, .no, .no, .no, .no]
  have gk := hpre
  dsimp only at gk
  have m1 := gk.m1
  have hn := head_pt gk
  refine qg_own 1 (el_lst (els_cons (ev_addS (ev_addS (ev_strI (ev_3a (ev_var (i := 0) rfl)) (by first | exact (hn (.int program.a) (by simp)).2.2.2 | exact (hn (.int program.b) (by simp)).2.2.2)) (ev_str) (by first | exact lx_head gk | exact lx_head2 gk | exact lx_a hl1 | exact lx_b hl1 (dats_part hpt ex1))) (ev_strI (ev_3b (ev_var (i := 0) rfl)) (by first | exact (hn (.int program.a) (by simp)).2.2.2 | exact (hn (.int program.b) (by simp)).2.2.2)) (by first | exact lx_head gk | exact lx_head2 gk | exact lx_a hl1 | exact lx_b hl1 (dats_part hpt ex1))) (els_nil)) (by simp)) rfl fun lines h_lines => ?_
  refine qg_inv (fun st_ : (List Str) => [.im program, .ow st_, .no, .no, .no]) (fun pre (st : List Str) => st = headL program :: pre.map fun r => lineM r.dats) lines (it_tup (ev_3c (ev_var (i := 0) rfl))) (.k (.k (.d (.d (.d .n))))) (by rw [h_lines, head_eq]; rfl) (fun pre0 row post0 s0 ex0 hs0 Sb0 rb0 => ⟨_, _, tg_name rfl, ?_⟩) (fun s0 hs0 => ?_)
  ·
    show At _ _ _ _ [.im program, .ow s0, .im row, .no, .no]
    have hr0 := mem_midT ex0
    have hpl : pre0.length < program.c.l.length := by have := congrArg List.length ex0; simp at this; omega
    refine qg_set 3 (ev_row0 (ev_var (i := 2) rfl)) rfl fun line h_line => ?_
    refine qg_inv (fun st_ : Str => [.im program, .ow s0, .im row, .im st_, .no]) (fun pre (st : Str) => st = lineM (.str row.word :: pre)) line (it_tup (ev_slT (EvX.rowT (ev_var (i := 2) rfl)) (eo_some (ev_int)) eo_none)) (.k (.k (.k (.k (.d .n))))) (by rw [h_line]; exact (line_one _).symm) (fun pre1 part post1 s1 ex1 hs1 Sb1 rb1 => ⟨_, _, tg_name rfl, ?_⟩) (fun s1 hs1 => ?_)
    ·
      show At _ _ _ _ [.im program, .ow s0, .im row, .im s1, .im part]
      have hpt := rowV_pt gk hr0
      have hd1 := ex1
      have hl1 : s1.length ≤ 20 := by rw [hs1]; exact lt_short hpt hd1
      refine qg_set 3 (ev_addS (ev_addS (ev_var (i := 3) rfl) (ev_str) (by first | exact lx_head gk | exact lx_head2 gk | exact lx_a hl1 | exact lx_b hl1 (dats_part hpt ex1))) (ev_strD (ev_var (i := 4) rfl) (by exact (dats_part hpt ex1).2.2.2)) (by first | exact lx_head gk | exact lx_head2 gk | exact lx_a hl1 | exact lx_b hl1 (dats_part hpt ex1))) rfl fun line1 h_line1 => ?_
      exact q_next (at_mid (.k (.k (.k (.k (.d .n))))) ⟨line1, by rfl, by rw [h_line1, hs1, ← List.cons_append]; exact (line_snoc (by simp) _).symm⟩)
    ·
      show At _ _ _ _ [.im program, .ow s0, .im row, .im s1, .no]
      refine qg_app 1 rfl (ev_var (i := 3) rfl) rfl (by exact lt_line (by rw [hs0, List.length_cons, List.length_map]; omega)) fun lines1 h_lines1 => ?_
      exact q_next (at_mid (.k (.k (.d (.d (.d .n))))) ⟨lines1, by rfl, by rw [h_lines1, hs0, List.map_append, hs1, cut_dats]; rfl⟩)
  ·
    show At _ _ _ _ [.im program, .ow s0, .no, .no, .no]
    refine at_relL (i := 1) rfl ?_
    exact q_ret (ev_joinS (ev_str) (EvX.c (ev_var (i := 1) rfl)) (by rw [hs0]; exact js_text gk)) (hret _ _ (by rw [hs0]; rfl))
end
theorem sc__law_same : FnScope ["found", "due", "one", "other"] ["found", "due"] (defScope s__law_same) := ⟨rfl, rfl, rfl, by decide +kernel, rfl, by decide +kernel, by decide +kernel⟩
theorem zip_same {l : List Dat} {x : Dat × Dat} (h : x ∈ l.zip l) : x.1 = x.2 ∧ x.1 ∈ l := by
  obtain ⟨i, h1, h2⟩ := List.getElem_of_mem h
  rw [List.getElem_zip] at h2
  rw [← h2]
  exact ⟨rfl, List.getElem_mem _⟩
section
variable {P : Program} {w : World} {K : Fg} {mg : Str → Option Value} {base : Heap}
set_option maxHeartbeats 4000000 in
theorem same0 (T : Tx K mg w) : Cal P w K mg base 1 "_law_same" ["found", "due"] (spSame K 0) := by
  have nd := sc__law_same.nd
  refine def_spF (k := 0) T.d__law_same sc__law_same rfl fun fa cdv A outer s H E hr => ?_
  refine ⟨_, pss_cons (ps_if (pt_cmp (pc_isN (pv 1))) (pss_cons (ps_ret (pe_cmp (pc_isN (pv 0)))) (pss_nil)) (pss_nil))
      (pss_cons (ps_if (pt_val (pe_callB call_isi (by rfl) T.n_isinstance (by decide +kernel) (pa_cons (pv 1) (pa_cons (pe_bltn (v := .ty "str") (by rfl) T.n_str (by decide +kernel) rfl) pa_nil)))) (pss_cons (ps_ret (pe_and (pe_callB call_isi (by rfl) T.n_isinstance (by decide +kernel) (pa_cons (pv 0) (pa_cons (pe_bltn (v := .ty "str") (by rfl) T.n_str (by decide +kernel) rfl) pa_nil))) (pe_one (pe_cmpR op_eq (pv 0) (pv 1) (nomark _))))) (pss_nil)) (pss_nil))
      (pss_cons (ps_if (pt_val (pe_callB call_isi (by rfl) T.n_isinstance (by decide +kernel) (pa_cons (pv 1) (pa_cons (pe_bltn (v := .ty "int") (by rfl) T.n_int (by decide +kernel) rfl) pa_nil)))) (pss_cons (ps_ret (pe_and (pe_callB call_isi (by rfl) T.n_isinstance (by decide +kernel) (pa_cons (pv 0) (pa_cons (pe_bltn (v := .ty "int") (by rfl) T.n_int (by decide +kernel) rfl) pa_nil))) (pe_and (pe_cmpR op_eq (pe_callB call_isi (by rfl) T.n_isinstance (by decide +kernel) (pa_cons (pv 0) (pa_cons (pe_bltn (v := .ty "bool") (by rfl) T.n_bool (by decide +kernel) rfl) pa_nil))) (pe_callB call_isi (by rfl) T.n_isinstance (by decide +kernel) (pa_cons (pv 1) (pa_cons (pe_bltn (v := .ty "bool") (by rfl) T.n_bool (by decide +kernel) rfl) pa_nil))) (nomark _)) (pe_one (pe_cmpR op_eq (pv 0) (pv 1) (nomark _)))))) (pss_nil)) (pss_nil))
      (pss_cons (ps_if (pt_cmpR op_ne (pe_callB call_isi (by rfl) T.n_isinstance (by decide +kernel) (pa_cons (pv 1) (pa_cons (pe_bltn (v := .ty "tuple") (by rfl) T.n_tuple (by decide +kernel) rfl) pa_nil))) (pe_callB call_isi (by rfl) T.n_isinstance (by decide +kernel) (pa_cons (pv 0) (pa_cons (pe_bltn (v := .ty "tuple") (by rfl) T.n_tuple (by decide +kernel) rfl) pa_nil))) (nomark _)) (pss_cons ps_never pss_nil) (pss_nil))
      (pss_cons (ps_if (pt_cmpR op_ne (pe_callB call_isi (by rfl) T.n_isinstance (by decide +kernel) (pa_cons (pv 1) (pa_cons (pe_bltn (v := .ty "list") (by rfl) T.n_list (by decide +kernel) rfl) pa_nil))) (pe_callB call_isi (by rfl) T.n_isinstance (by decide +kernel) (pa_cons (pv 0) (pa_cons (pe_bltn (v := .ty "list") (by rfl) T.n_list (by decide +kernel) rfl) pa_nil))) (nomark _)) (pss_cons ps_never pss_nil) (pss_nil))
      (pss_cons (ps_if (pt_cmpR op_ne (pe_callB call_lenG (by rfl) T.n_len (by decide +kernel) (pa_cons (pv 0) pa_nil)) (pe_callB call_lenG (by rfl) T.n_len (by decide +kernel) (pa_cons (pv 1) pa_nil)) (nomark _)) (pss_cons ps_never pss_nil) (pss_nil))
      (pss_cons (ps_never)
      (pss_nil))))))), ?_⟩
  rintro ⟨d, d', _⟩ hpre B S0 Q hret
  obtain ⟨hdd, hd⟩ := hpre
  dsimp only at hdd hd
  subst hdd
  show At _ _ _ _ [.im d, .im d, .no, .no]
  cases d with
  | non =>
    refine q_if (et_B (ev_isND (ev_var (i := 1) rfl))) (fun hb => ?_) (fun hb => ?_)
    · exact q_ret (ev_isND (ev_var (i := 0) rfl)) (hret _ _ rfl)
    · cases hb
  | str x =>
    refine q_ifF (et_B (ev_isND (ev_var (i := 1) rfl))) rfl ?_
    refine q_if (et_B (ev_isiD (b := true) (ev_var (i := 1) rfl) (show kitB "str" "str" = some true by decide +kernel))) (fun hb => ?_) (fun hb => ?_)
    · exact q_ret (ev_andV (ev_isiD (b := true) (ev_var (i := 0) rfl) (show kitB "str" "str" = some true by decide +kernel)) (fun _ => ev_eq (EvX.unS (ev_var (i := 0) rfl)) (EvX.unS (ev_var (i := 1) rfl)))) (hret _ _ (by simp))
    · cases hb
  | int x =>
    refine q_ifF (et_B (ev_isND (ev_var (i := 1) rfl))) rfl ?_
    refine q_ifF (et_B (ev_isiD (b := false) (ev_var (i := 1) rfl) (show kitB "int" "str" = some false by decide +kernel))) rfl ?_
    refine q_if (et_B (ev_isiD (b := true) (ev_var (i := 1) rfl) (show kitB "int" "int" = some true by decide +kernel))) (fun hb => ?_) (fun hb => ?_)
    · exact q_ret (ev_andV (ev_isiD (b := true) (ev_var (i := 0) rfl) (show kitB "int" "int" = some true by decide +kernel)) (fun _ => ev_andV (ev_eq (ev_isiD (b := false) (ev_var (i := 0) rfl) (show kitB "int" "bool" = some false by decide +kernel)) (ev_isiD (b := false) (ev_var (i := 1) rfl) (show kitB "int" "bool" = some false by decide +kernel))) (fun _ => ev_eq (EvX.unI (ev_var (i := 0) rfl)) (EvX.unI (ev_var (i := 1) rfl))))) (hret _ _ (by simp))
    · cases hb
  | bl x =>
    refine q_ifF (et_B (ev_isND (ev_var (i := 1) rfl))) rfl ?_
    refine q_ifF (et_B (ev_isiD (b := false) (ev_var (i := 1) rfl) (show kitB "bool" "str" = some false by decide +kernel))) rfl ?_
    refine q_if (et_B (ev_isiD (b := true) (ev_var (i := 1) rfl) (show kitB "bool" "int" = some true by decide +kernel))) (fun hb => ?_) (fun hb => ?_)
    · exact q_ret (ev_andV (ev_isiD (b := true) (ev_var (i := 0) rfl) (show kitB "bool" "int" = some true by decide +kernel)) (fun _ => ev_andV (ev_eq (ev_isiD (b := true) (ev_var (i := 0) rfl) (show kitB "bool" "bool" = some true by decide +kernel)) (ev_isiD (b := true) (ev_var (i := 1) rfl) (show kitB "bool" "bool" = some true by decide +kernel))) (fun _ => ev_eq (EvX.unBl (ev_var (i := 0) rfl)) (EvX.unBl (ev_var (i := 1) rfl))))) (hret _ _ (by simp))
    · cases hb
  | tup l => cases hd
  | lst l => cases hd
set_option maxHeartbeats 4000000 in
theorem sameS (T : Tx K mg w) {k : Nat} (c : Cal P w K mg base (k + 1) "_law_same" ["found", "due"] (spSame K k)) : Cal P w K mg base (k + 1 + 1) "_law_same" ["found", "due"] (spSame K (k + 1)) := by
  have nd := sc__law_same.nd
  refine def_spF (k := k + 1) T.d__law_same sc__law_same rfl fun fa cdv A outer s H E hr => ?_
  refine ⟨_, pss_cons (ps_if (pt_cmp (pc_isN (pv 1))) (pss_cons (ps_ret (pe_cmp (pc_isN (pv 0)))) (pss_nil)) (pss_nil))
      (pss_cons (ps_if (pt_val (pe_callB call_isi (by rfl) T.n_isinstance (by decide +kernel) (pa_cons (pv 1) (pa_cons (pe_bltn (v := .ty "str") (by rfl) T.n_str (by decide +kernel) rfl) pa_nil)))) (pss_cons (ps_ret (pe_and (pe_callB call_isi (by rfl) T.n_isinstance (by decide +kernel) (pa_cons (pv 0) (pa_cons (pe_bltn (v := .ty "str") (by rfl) T.n_str (by decide +kernel) rfl) pa_nil))) (pe_one (pe_cmpR op_eq (pv 0) (pv 1) (nomark _))))) (pss_nil)) (pss_nil))
      (pss_cons (ps_if (pt_val (pe_callB call_isi (by rfl) T.n_isinstance (by decide +kernel) (pa_cons (pv 1) (pa_cons (pe_bltn (v := .ty "int") (by rfl) T.n_int (by decide +kernel) rfl) pa_nil)))) (pss_cons (ps_ret (pe_and (pe_callB call_isi (by rfl) T.n_isinstance (by decide +kernel) (pa_cons (pv 0) (pa_cons (pe_bltn (v := .ty "int") (by rfl) T.n_int (by decide +kernel) rfl) pa_nil))) (pe_and (pe_cmpR op_eq (pe_callB call_isi (by rfl) T.n_isinstance (by decide +kernel) (pa_cons (pv 0) (pa_cons (pe_bltn (v := .ty "bool") (by rfl) T.n_bool (by decide +kernel) rfl) pa_nil))) (pe_callB call_isi (by rfl) T.n_isinstance (by decide +kernel) (pa_cons (pv 1) (pa_cons (pe_bltn (v := .ty "bool") (by rfl) T.n_bool (by decide +kernel) rfl) pa_nil))) (nomark _)) (pe_one (pe_cmpR op_eq (pv 0) (pv 1) (nomark _)))))) (pss_nil)) (pss_nil))
      (pss_cons (ps_if (pt_cmpR op_ne (pe_callB call_isi (by rfl) T.n_isinstance (by decide +kernel) (pa_cons (pv 1) (pa_cons (pe_bltn (v := .ty "tuple") (by rfl) T.n_tuple (by decide +kernel) rfl) pa_nil))) (pe_callB call_isi (by rfl) T.n_isinstance (by decide +kernel) (pa_cons (pv 0) (pa_cons (pe_bltn (v := .ty "tuple") (by rfl) T.n_tuple (by decide +kernel) rfl) pa_nil))) (nomark _)) (pss_cons ps_never pss_nil) (pss_nil))
      (pss_cons (ps_if (pt_cmpR op_ne (pe_callB call_isi (by rfl) T.n_isinstance (by decide +kernel) (pa_cons (pv 1) (pa_cons (pe_bltn (v := .ty "list") (by rfl) T.n_list (by decide +kernel) rfl) pa_nil))) (pe_callB call_isi (by rfl) T.n_isinstance (by decide +kernel) (pa_cons (pv 0) (pa_cons (pe_bltn (v := .ty "list") (by rfl) T.n_list (by decide +kernel) rfl) pa_nil))) (nomark _)) (pss_cons ps_never pss_nil) (pss_nil))
      (pss_cons (ps_if (pt_cmpR op_ne (pe_callB call_lenG (by rfl) T.n_len (by decide +kernel) (pa_cons (pv 0) pa_nil)) (pe_callB call_lenG (by rfl) T.n_len (by decide +kernel) (pa_cons (pv 1) pa_nil)) (nomark _)) (pss_cons ps_never pss_nil) (pss_nil))
      (pss_cons (ps_ret (pe_cmpR (r := rIn K true) op_notIn_seq pe_bl (pe_lc (own := [("one", 2), ("other", 3)]) (g := gTup K 2 (gCons (gName 2) (gCons (gName 3) gNil))) (by rfl) nd (RZ.pi_zipA (by rfl) T.n_zip (pa_cons (pv 0) (pa_cons (pv 1) pa_nil))) (blkOk_by (N := ["found", "due", "one", "other"]) (sc := defScope s__law_same) (by decide +kernel)) (fun _ _ _ _ _ => pg_tup rfl (pgs_cons (pg_name (i := 2) nd rfl (.inl rfl) (.inr rfl)) (pgs_cons (pg_name (i := 3) nd rfl (.inl rfl) (.inr rfl)) (pgs_nil)))) (fun _ _ _ _ _ => pts_nil) (fun _ _ _ _ _ => pe_cal c hr (Nat.le_refl _) (by rfl) (pa_cons (pv 2) (pa_cons (pv 3) pa_nil)))) (by rfl)))
      (pss_nil))))))), ?_⟩
  rintro ⟨d, d', _⟩ hpre B S0 Q hret
  obtain ⟨hdd, hd⟩ := hpre
  dsimp only at hdd hd
  subst hdd
  show At _ _ _ _ [.im d, .im d, .no, .no]
  cases d with
  | non =>
    refine q_if (et_B (ev_isND (ev_var (i := 1) rfl))) (fun hb => ?_) (fun hb => ?_)
    · exact q_ret (ev_isND (ev_var (i := 0) rfl)) (hret _ _ rfl)
    · cases hb
  | str x =>
    refine q_ifF (et_B (ev_isND (ev_var (i := 1) rfl))) rfl ?_
    refine q_if (et_B (ev_isiD (b := true) (ev_var (i := 1) rfl) (show kitB "str" "str" = some true by decide +kernel))) (fun hb => ?_) (fun hb => ?_)
    · exact q_ret (ev_andV (ev_isiD (b := true) (ev_var (i := 0) rfl) (show kitB "str" "str" = some true by decide +kernel)) (fun _ => ev_eq (EvX.unS (ev_var (i := 0) rfl)) (EvX.unS (ev_var (i := 1) rfl)))) (hret _ _ (by simp))
    · cases hb
  | int x =>
    refine q_ifF (et_B (ev_isND (ev_var (i := 1) rfl))) rfl ?_
    refine q_ifF (et_B (ev_isiD (b := false) (ev_var (i := 1) rfl) (show kitB "int" "str" = some false by decide +kernel))) rfl ?_
    refine q_if (et_B (ev_isiD (b := true) (ev_var (i := 1) rfl) (show kitB "int" "int" = some true by decide +kernel))) (fun hb => ?_) (fun hb => ?_)
    · exact q_ret (ev_andV (ev_isiD (b := true) (ev_var (i := 0) rfl) (show kitB "int" "int" = some true by decide +kernel)) (fun _ => ev_andV (ev_eq (ev_isiD (b := false) (ev_var (i := 0) rfl) (show kitB "int" "bool" = some false by decide +kernel)) (ev_isiD (b := false) (ev_var (i := 1) rfl) (show kitB "int" "bool" = some false by decide +kernel))) (fun _ => ev_eq (EvX.unI (ev_var (i := 0) rfl)) (EvX.unI (ev_var (i := 1) rfl))))) (hret _ _ (by simp))
    · cases hb
  | bl x =>
    refine q_ifF (et_B (ev_isND (ev_var (i := 1) rfl))) rfl ?_
    refine q_ifF (et_B (ev_isiD (b := false) (ev_var (i := 1) rfl) (show kitB "bool" "str" = some false by decide +kernel))) rfl ?_
    refine q_if (et_B (ev_isiD (b := true) (ev_var (i := 1) rfl) (show kitB "bool" "int" = some true by decide +kernel))) (fun hb => ?_) (fun hb => ?_)
    · exact q_ret (ev_andV (ev_isiD (b := true) (ev_var (i := 0) rfl) (show kitB "bool" "int" = some true by decide +kernel)) (fun _ => ev_andV (ev_eq (ev_isiD (b := true) (ev_var (i := 0) rfl) (show kitB "bool" "bool" = some true by decide +kernel)) (ev_isiD (b := true) (ev_var (i := 1) rfl) (show kitB "bool" "bool" = some true by decide +kernel))) (fun _ => ev_eq (EvX.unBl (ev_var (i := 0) rfl)) (EvX.unBl (ev_var (i := 1) rfl))))) (hret _ _ (by simp))
    · cases hb
  | tup l =>
    cases hd with
    | tup hl hx =>
    refine q_ifF (et_B (ev_isND (ev_var (i := 1) rfl))) rfl ?_
    refine q_ifF (et_B (ev_isiD (b := false) (ev_var (i := 1) rfl) (show kitB "tuple" "str" = some false by decide +kernel))) rfl ?_
    refine q_ifF (et_B (ev_isiD (b := false) (ev_var (i := 1) rfl) (show kitB "tuple" "int" = some false by decide +kernel))) rfl ?_
    refine q_ifF (et_test (ev_ne (ev_isiD (b := true) (ev_var (i := 1) rfl) (show kitB "tuple" "tuple" = some true by decide +kernel)) (ev_isiD (b := true) (ev_var (i := 0) rfl) (show kitB "tuple" "tuple" = some true by decide +kernel)))) (by decide) ?_
    refine q_ifF (et_test (ev_ne (ev_isiD (b := false) (ev_var (i := 1) rfl) (show kitB "tuple" "list" = some false by decide +kernel)) (ev_isiD (b := false) (ev_var (i := 0) rfl) (show kitB "tuple" "list" = some false by decide +kernel)))) (by decide) ?_
    refine q_ifF (et_test (ev_ne (ev_lenT (EvX.unT (ev_var (i := 0) rfl))) (ev_lenT (EvX.unT (ev_var (i := 1) rfl))))) (by simp) ?_
    refine q_ret (ev_ninB ev_bl (EvL.c (el_lcM (fun _ => true) (it_zipAT (EvX.unT (ev_var (i := 0) rfl)) (EvX.unT (ev_var (i := 1) rfl))) (by (try dsimp only); rw [List.length_zip]; omega) rfl (fun x hm => ⟨_, _, tg_pair (tg_name rfl) (tg_name rfl), (by decide), ev_call (ea_cons (ev_var (i := 2) rfl) (ea_cons (ev_var (i := 3) rfl) ea_nil)) (by
      have he := zip_same hm
      exact ⟨he.1, hx _ he.2⟩)⟩)))) (hret _ _ (by simp))
  | lst l =>
    cases hd with
    | lst hl hx =>
    refine q_ifF (et_B (ev_isND (ev_var (i := 1) rfl))) rfl ?_
    refine q_ifF (et_B (ev_isiD (b := false) (ev_var (i := 1) rfl) (show kitB "list" "str" = some false by decide +kernel))) rfl ?_
    refine q_ifF (et_B (ev_isiD (b := false) (ev_var (i := 1) rfl) (show kitB "list" "int" = some false by decide +kernel))) rfl ?_
    refine q_ifF (et_test (ev_ne (ev_isiD (b := false) (ev_var (i := 1) rfl) (show kitB "list" "tuple" = some false by decide +kernel)) (ev_isiD (b := false) (ev_var (i := 0) rfl) (show kitB "list" "tuple" = some false by decide +kernel)))) (by decide) ?_
    refine q_ifF (et_test (ev_ne (ev_isiD (b := true) (ev_var (i := 1) rfl) (show kitB "list" "list" = some true by decide +kernel)) (ev_isiD (b := true) (ev_var (i := 0) rfl) (show kitB "list" "list" = some true by decide +kernel)))) (by decide) ?_
    refine q_ifF (et_test (ev_ne (ev_len (EvX.c (EvX.unL (ev_var (i := 0) rfl)))) (ev_len (EvX.c (EvX.unL (ev_var (i := 1) rfl)))))) (by simp) ?_
    refine q_ret (ev_ninB ev_bl (EvL.c (el_lcM (fun _ => true) (it_zipAL (EvX.unL (ev_var (i := 0) rfl)) (EvX.unL (ev_var (i := 1) rfl))) (by (try dsimp only); rw [List.length_zip]; omega) rfl (fun x hm => ⟨_, _, tg_pair (tg_name rfl) (tg_name rfl), (by decide), ev_call (ea_cons (ev_var (i := 2) rfl) (ea_cons (ev_var (i := 3) rfl) ea_nil)) (by
      have he := zip_same hm
      exact ⟨he.1, hx _ he.2⟩)⟩)))) (hret _ _ (by simp))

theorem same_all (T : Tx K mg w) : ∀ k : Nat, Cal P w K mg base (k + 1) "_law_same" ["found", "due"] (spSame K k)
  | 0 => same0 T
  | k + 1 => sameS T (same_all T k)
theorem ok__law_same (T : Tx K mg w) : Cal P w K mg base 5 "_law_same" ["found", "due"] (spSame K 4) := same_all T 4
end
theorem sc_law : FnScope ["script", "pen", "turn", "program", "text", "found"] ["script"] (defScope s_law) := ⟨rfl, rfl, rfl, by decide +kernel, rfl, by decide +kernel, by decide +kernel⟩
section
variable {P : Program} {w : World} {K : Fg} {mg : Str → Option Value} {base : Heap}
set_option maxHeartbeats 4000000 in
theorem ok_law {fa : Addr} {fd : FuncData} (T : Tx K mg w) (F : Fun K "law" "law" s_law fa fd) (c__law_pen : Cal P w K mg base 1 "_law_pen" ["script"] (spPen K)) (c__law_program : Cal P w K mg base 3 "_law_program" ["pen", "takes"] (spRP K (fun (a : Bool × Unit) (y : (T3 Int Int (Tp WRow))) => ProgOk y ∧ ∀ r ∈ y.c.l, RowT a.1 r) (fun a => True))) (c__law_same : Cal P w K mg base 5 "_law_same" ["found", "due"] (spSame K 4)) (c__law_text : Cal P w K mg base 1 "_law_text" ["program"] (spF K (fun a : (T3 Int Int (Tp WRow)) × Unit => textM a.1) (fun a => ProgOk a.1))) (c_program_text : Cal P w K mg base 1 "program_text" ["program"] (spF K (fun a : Dat × Unit => progTx a.1) (fun a => DgOk a.1))) (c_read_program : Cal P w K mg base 4 "read_program" ["text"] (spF K (fun a : Str × Unit => linesD (Txt.split a.1 "\n")) (fun a => TxP a.1))) : FnOk P w K mg base CX0 6 fa fd ["script"] (spLaw K) := by
  have nd := sc_law.nd
  refine fn_law (k := 5) F sc_law fun cdv A outer s H E hr => ?_
  refine ⟨_, pss_cons (ps_set (i := 1) nd rfl (.inl rfl) (pe_cal c__law_pen hr (by decide) (by rfl) (pa_cons (pv 0) pa_nil)))
      (pss_cons (ps_for PassesOwn.never rfl (pi_range1 (by rfl) T.n_range (pa_cons (pe_int) pa_nil)) (pg_name (i := 2) nd rfl (.inl rfl))
      (pss_cons (ps_set (i := 3) nd rfl (.inl rfl) (pe_cal c__law_program hr (by decide) (by rfl) (pa_cons (pv 1) (pa_cons (pe_bl) pa_nil))))
      (pss_cons (ps_set (i := 4) nd rfl (.inl rfl) (pe_cal c__law_text hr (by decide) (by rfl) (pa_cons (pv 3) pa_nil)))
      (pss_cons (ps_if (pt_not (pt_val (pe_cal c__law_same hr (by decide) (by rfl) (pa_cons (pe_cal c_program_text hr (by decide) (by rfl) (pa_cons (pv 3) pa_nil)) (pa_cons (pv 4) pa_nil))))) (pss_cons ps_never (pss_nil)) (pss_nil))
      (pss_cons (ps_set (i := 5) nd rfl (.inl rfl) (pe_cal c_read_program hr (by decide) (by rfl) (pa_cons (pv 4) pa_nil)))
      (pss_cons (ps_if (PW.pt (pw_or (pt_not (pt_val (pe_cal c__law_same hr (by decide) (by rfl) (pa_cons (pv 5) (pa_cons (pv 3) pa_nil))))) (pw_or1 (pt_not (pt_val (pe_cal c__law_same hr (by decide) (by rfl) (pa_cons (pe_cal c_program_text hr (by decide) (by rfl) (pa_cons (pv 5) pa_nil)) (pa_cons (pv 4) pa_nil)))))))) (pss_cons ps_never (pss_nil)) (pss_nil))
      (pss_nil)))))))
      (pss_cons (ps_ret (pe_bl))
      (pss_nil))), ?_⟩
  intro script hpre B S0 Q hret
  show At _ _ _ _ [.im script, .no, .no, .no, .no, .no]
  refine q_pen 1 (ea_cons (ev_var (i := 0) rfl) ea_nil) hpre rfl fun pen hl_pen => ?_
  refine qg_inv (fun st_ : Pen => [.im script, .ow st_, .no, .no, .no, .no]) (fun _ (_ : Pen) => True) pen (it_rng1 (ev_int) (by first | omega | (dsimp only; omega))) (.k (.k (.d (.d (.d (.d .n)))))) (by trivial) (fun pre0 turn post0 s0 ex0 hs0 Sb0 rb0 => ⟨_, _, tg_name rfl, ?_⟩) (fun s0 hs0 => ?_)
  ·
    show At _ _ _ _ [.im script, .ow s0, .im turn, .no, .no, .no]
    refine q_relP 1 rfl (ea_cons (ev_bl) (ea_nil)) rfl (by ((try dsimp only) <;> (repeat' (first | assumption | omega | refine And.intro ?_ ?_)) <;> first | trivial | assumption | omega | decide | simp)) fun program pen1 hR_program a_pen1 => ⟨_, _, tg_name rfl, ?_⟩
    show At _ _ _ _ [.im script, .ow pen1, .im turn, .im program, .no, .no]
    have gk := hR_program.1
    refine qg_set 4 (ev_call (ea_cons (ev_var (i := 3) rfl) (ea_nil)) (by exact gk)) rfl fun text h_text => ?_
    refine q_ifF (et_not (et_B (ev_call (ea_cons (EvX.dat (ev_call (ea_cons (EvX.dat (ev_var (i := 3) rfl)) (ea_nil)) (by first | exact ⟨program, gk, rfl⟩ | exact ⟨program, gk, hf⟩))) (ea_cons (EvX.dat (ev_var (i := 4) rfl)) (ea_nil))) (by first | exact ⟨by dsimp only; rw [h_text, prog_tx], dle_str _⟩ | exact ⟨by dsimp only; rw [hf, h_text, prog_tx], dle_str _⟩ | exact ⟨by dsimp only; rw [hf], by dsimp only; rw [hf]; exact dle_prog gk⟩)))) ?_ ?_
    · rfl
    refine qg_set 5 (ev_call (ea_cons (ev_var (i := 4) rfl) (ea_nil)) (by exact ⟨program, gk, h_text⟩)) rfl fun found h_found => ?_
    have hf : found = ToD.dat program := by rw [h_found, h_text]; rw [text_split gk]; exact lines_read gk
    refine q_ifF (et_or (et_not (et_B (ev_call (ea_cons (ev_var (i := 5) rfl) (ea_cons (EvX.dat (ev_var (i := 3) rfl)) (ea_nil))) (by first | exact ⟨by dsimp only; rw [h_text, prog_tx], dle_str _⟩ | exact ⟨by dsimp only; rw [hf, h_text, prog_tx], dle_str _⟩ | exact ⟨by dsimp only; rw [hf], by dsimp only; rw [hf]; exact dle_prog gk⟩)))) (fun hc => et_not (et_B (ev_call (ea_cons (EvX.dat (ev_call (ea_cons (ev_var (i := 5) rfl) (ea_nil)) (by first | exact ⟨program, gk, rfl⟩ | exact ⟨program, gk, hf⟩))) (ea_cons (EvX.dat (ev_var (i := 4) rfl)) (ea_nil))) (by first | exact ⟨by dsimp only; rw [h_text, prog_tx], dle_str _⟩ | exact ⟨by dsimp only; rw [hf, h_text, prog_tx], dle_str _⟩ | exact ⟨by dsimp only; rw [hf], by dsimp only; rw [hf]; exact dle_prog gk⟩))))) ?_ ?_
    · rfl
    exact q_next (at_mid (.k (.k (.d (.d (.d (.d .n)))))) ⟨pen1, by rfl, by trivial⟩)
  ·
    show At _ _ _ _ [.im script, .ow s0, .no, .no, .no, .no]
    exact q_ret (ev_bl) (hret _ _ (by rfl))
end
end L52

namespace L52
open PySem PySem.Spec PyProof.Rows L2 GL
theorem def_mk {K : Fg} {mg : Str → Option Value} {h : Heap} {x : Str} {st : Stmt} {ps : List Str} {f : Addr} {oc : Value} {od an : Option Addr} {osl : Array (Option Value)} {kV doc pm cdv ct : Value} (X : K.In h) (G : h.Ns mainGlobals mg) (a : PySem.W.nsIn K mainGlobals x = some (some (.ref f)))
    (l : K.lookup f = some ⟨oc, od, .func (PySem.W.fnOf x x (defArgs st) (defBody st) (defScope st) .none kV doc pm an cdv ct), osl⟩) (c : PySem.W.codeIn K cdv x = true) (k : PySem.W.keepIn K (.ref f) = true)
    (hb : ∀ (kV doc pm : Value) (an : Option Addr) (cdv ct : Value) (us : List Value), us.length = ps.length → bindArgs (PySem.W.fnOf x x (defArgs st) (defBody st) (defScope st) .none kV doc pm an cdv ct) ⟨us, []⟩ = pure (ps.zip us)) : Def K mg x st ps :=
  ⟨f, _, PySem.W.mg_of X G a, fun_mk l c k, (fun_mk l c k).binds hb⟩
section
variable {P : Program} {w : World} {K : Fg} {mg : Str → Option Value} {base : Heap}
set_option maxHeartbeats 4000000 in
theorem all_ok {fa : Addr} {fd : FuncData} (T : Tx K mg w) (F : Fun K "law" "law" s_law fa fd) : FnOk P w K mg base CX0 6 fa fd ["script"] (spLaw K) := by
  have c_program_text : Cal P w K mg base 1 "program_text" ["program"] (spF K (fun a : Dat × Unit => progTx a.1) (fun a => DgOk a.1)) := ok_program_text T 
  have c_number_told : Cal P w K mg base 1 "number_told" ["word"] (spF K (fun a : Str × Unit => numD a.1) (fun a => a.1.length ≤ 900000)) := ok_number_told T 
  have c_head_told : Cal P w K mg base 2 "head_told" ["line"] (spF K (fun a : Str × Unit => headD a.1) (fun a => a.1.length ≤ 900000)) := ok_head_told T c_number_told
  have c_row_told : Cal P w K mg base 2 "row_told" ["head", "line"] (spF K (fun a : (List Dat) × Str × Unit => rowR a.1 a.2.1) (fun a => HdOk a.1 ∧ a.2.1.length ≤ 900000)) := ok_row_told T c_number_told
  have c_read_lines : Cal P w K mg base 3 "read_lines" ["lines"] (spF K (fun a : (List Str) × Unit => linesD a.1) (fun a => LnP a.1)) := ok_read_lines T c_head_told c_row_told
  have c_read_program : Cal P w K mg base 4 "read_program" ["text"] (spF K (fun a : Str × Unit => linesD (Txt.split a.1 "\n")) (fun a => TxP a.1)) := ok_read_program T c_read_lines
  have c__law_pen : Cal P w K mg base 1 "_law_pen" ["script"] (spPen K) := ok__law_pen T 
  have c__law_take : Cal P w K mg base 1 "_law_take" ["pen", "many"] (spM K (fun (z : Pen) (a : Int × Unit) => penTake z a.1) (fun z a => 0 < a.1 ∧ a.1 < 1073741824)) := ok__law_take T 
  have c__law_row : Cal P w K mg base 2 "_law_row" ["pen", "n", "w", "many", "takes"] (spM K (fun (z : Pen) (a : Int × Int × Int × Bool × Unit) => rowM z a.1 a.2.1 a.2.2.1 a.2.2.2.1) (fun z a => (0 < a.1 ∧ a.1 < 1000) ∧ (0 < a.2.1 ∧ a.2.1 < 1000) ∧ 0 < a.2.2.1 ∧ a.2.2.1 < 1000)) := ok__law_row T c__law_take
  have c__law_program : Cal P w K mg base 3 "_law_program" ["pen", "takes"] (spRP K (fun (a : Bool × Unit) (y : (T3 Int Int (Tp WRow))) => ProgOk y ∧ ∀ r ∈ y.c.l, RowT a.1 r) (fun a => True)) := ok__law_program T c__law_row c__law_take
  have c__law_text : Cal P w K mg base 1 "_law_text" ["program"] (spF K (fun a : (T3 Int Int (Tp WRow)) × Unit => textM a.1) (fun a => ProgOk a.1)) := ok__law_text T 
  have c__law_same : Cal P w K mg base 5 "_law_same" ["found", "due"] (spSame K 4) := ok__law_same T 
  exact ok_law T F c__law_pen c__law_program c__law_same c__law_text c_program_text c_read_program
end
set_option maxHeartbeats 4000000 in
theorem all_mk {l : PySem.W.OpenLaw} {w : World} {K : Fg} {h : Heap} {mg : Str → Option Value} {fa f0 f1 f2 f3 f4 f5 f6 f7 f8 f9 f11 f12 f13 : Addr} (X : K.In h) (G : h.Ns mainGlobals mg) (hfa : mg "law" = some (.ref fa))
    {od0 an0 : Option Addr} {sl0 : Array (Option Value)} {oc0 kV0 dc0 pm0 cd0 ct0 : Value}
    (a0 : PySem.W.nsIn K mainGlobals "program_text" = some (some (.ref f0))) (l0 : K.lookup f0 = some ⟨oc0, od0, .func (PySem.W.fnOf "program_text" "program_text" (defArgs s_program_text) (defBody s_program_text) (defScope s_program_text) .none kV0 dc0 pm0 an0 cd0 ct0), sl0⟩) (c0 : PySem.W.codeIn K cd0 "program_text" = true) (k0 : PySem.W.keepIn K (.ref f0) = true)
    {od1 an1 : Option Addr} {sl1 : Array (Option Value)} {oc1 kV1 dc1 pm1 cd1 ct1 : Value}
    (a1 : PySem.W.nsIn K mainGlobals "number_told" = some (some (.ref f1))) (l1 : K.lookup f1 = some ⟨oc1, od1, .func (PySem.W.fnOf "number_told" "number_told" (defArgs s_number_told) (defBody s_number_told) (defScope s_number_told) .none kV1 dc1 pm1 an1 cd1 ct1), sl1⟩) (c1 : PySem.W.codeIn K cd1 "number_told" = true) (k1 : PySem.W.keepIn K (.ref f1) = true)
    {od2 an2 : Option Addr} {sl2 : Array (Option Value)} {oc2 kV2 dc2 pm2 cd2 ct2 : Value}
    (a2 : PySem.W.nsIn K mainGlobals "head_told" = some (some (.ref f2))) (l2 : K.lookup f2 = some ⟨oc2, od2, .func (PySem.W.fnOf "head_told" "head_told" (defArgs s_head_told) (defBody s_head_told) (defScope s_head_told) .none kV2 dc2 pm2 an2 cd2 ct2), sl2⟩) (c2 : PySem.W.codeIn K cd2 "head_told" = true) (k2 : PySem.W.keepIn K (.ref f2) = true)
    {od3 an3 : Option Addr} {sl3 : Array (Option Value)} {oc3 kV3 dc3 pm3 cd3 ct3 : Value}
    (a3 : PySem.W.nsIn K mainGlobals "row_told" = some (some (.ref f3))) (l3 : K.lookup f3 = some ⟨oc3, od3, .func (PySem.W.fnOf "row_told" "row_told" (defArgs s_row_told) (defBody s_row_told) (defScope s_row_told) .none kV3 dc3 pm3 an3 cd3 ct3), sl3⟩) (c3 : PySem.W.codeIn K cd3 "row_told" = true) (k3 : PySem.W.keepIn K (.ref f3) = true)
    {od4 an4 : Option Addr} {sl4 : Array (Option Value)} {oc4 kV4 dc4 pm4 cd4 ct4 : Value}
    (a4 : PySem.W.nsIn K mainGlobals "read_lines" = some (some (.ref f4))) (l4 : K.lookup f4 = some ⟨oc4, od4, .func (PySem.W.fnOf "read_lines" "read_lines" (defArgs s_read_lines) (defBody s_read_lines) (defScope s_read_lines) .none kV4 dc4 pm4 an4 cd4 ct4), sl4⟩) (c4 : PySem.W.codeIn K cd4 "read_lines" = true) (k4 : PySem.W.keepIn K (.ref f4) = true)
    {od5 an5 : Option Addr} {sl5 : Array (Option Value)} {oc5 kV5 dc5 pm5 cd5 ct5 : Value}
    (a5 : PySem.W.nsIn K mainGlobals "read_program" = some (some (.ref f5))) (l5 : K.lookup f5 = some ⟨oc5, od5, .func (PySem.W.fnOf "read_program" "read_program" (defArgs s_read_program) (defBody s_read_program) (defScope s_read_program) .none kV5 dc5 pm5 an5 cd5 ct5), sl5⟩) (c5 : PySem.W.codeIn K cd5 "read_program" = true) (k5 : PySem.W.keepIn K (.ref f5) = true)
    {od6 an6 : Option Addr} {sl6 : Array (Option Value)} {oc6 kV6 dc6 pm6 cd6 ct6 : Value}
    (a6 : PySem.W.nsIn K mainGlobals "_law_pen" = some (some (.ref f6))) (l6 : K.lookup f6 = some ⟨oc6, od6, .func (PySem.W.fnOf "_law_pen" "_law_pen" (defArgs s__law_pen) (defBody s__law_pen) (defScope s__law_pen) .none kV6 dc6 pm6 an6 cd6 ct6), sl6⟩) (c6 : PySem.W.codeIn K cd6 "_law_pen" = true) (k6 : PySem.W.keepIn K (.ref f6) = true)
    {od7 an7 : Option Addr} {sl7 : Array (Option Value)} {oc7 kV7 dc7 pm7 cd7 ct7 : Value}
    (a7 : PySem.W.nsIn K mainGlobals "_law_take" = some (some (.ref f7))) (l7 : K.lookup f7 = some ⟨oc7, od7, .func (PySem.W.fnOf "_law_take" "_law_take" (defArgs s__law_take) (defBody s__law_take) (defScope s__law_take) .none kV7 dc7 pm7 an7 cd7 ct7), sl7⟩) (c7 : PySem.W.codeIn K cd7 "_law_take" = true) (k7 : PySem.W.keepIn K (.ref f7) = true)
    {od8 an8 : Option Addr} {sl8 : Array (Option Value)} {oc8 kV8 dc8 pm8 cd8 ct8 : Value}
    (a8 : PySem.W.nsIn K mainGlobals "_law_row" = some (some (.ref f8))) (l8 : K.lookup f8 = some ⟨oc8, od8, .func (PySem.W.fnOf "_law_row" "_law_row" (defArgs s__law_row) (defBody s__law_row) (defScope s__law_row) .none kV8 dc8 pm8 an8 cd8 ct8), sl8⟩) (c8 : PySem.W.codeIn K cd8 "_law_row" = true) (k8 : PySem.W.keepIn K (.ref f8) = true)
    {od9 an9 : Option Addr} {sl9 : Array (Option Value)} {oc9 kV9 dc9 pm9 cd9 ct9 : Value}
    (a9 : PySem.W.nsIn K mainGlobals "_law_program" = some (some (.ref f9))) (l9 : K.lookup f9 = some ⟨oc9, od9, .func (PySem.W.fnOf "_law_program" "_law_program" (defArgs s__law_program) (defBody s__law_program) (defScope s__law_program) .none kV9 dc9 pm9 an9 cd9 ct9), sl9⟩) (c9 : PySem.W.codeIn K cd9 "_law_program" = true) (k9 : PySem.W.keepIn K (.ref f9) = true)
    {od11 an11 : Option Addr} {sl11 : Array (Option Value)} {oc11 kV11 dc11 pm11 cd11 ct11 : Value}
    (a11 : PySem.W.nsIn K mainGlobals "_law_same" = some (some (.ref f11))) (l11 : K.lookup f11 = some ⟨oc11, od11, .func (PySem.W.fnOf "_law_same" "_law_same" (defArgs s__law_same) (defBody s__law_same) (defScope s__law_same) .none kV11 dc11 pm11 an11 cd11 ct11), sl11⟩) (c11 : PySem.W.codeIn K cd11 "_law_same" = true) (k11 : PySem.W.keepIn K (.ref f11) = true)
    {od12 an12 : Option Addr} {sl12 : Array (Option Value)} {oc12 kV12 dc12 pm12 cd12 ct12 : Value}
    (a12 : PySem.W.nsIn K mainGlobals "_law_text" = some (some (.ref f12))) (l12 : K.lookup f12 = some ⟨oc12, od12, .func (PySem.W.fnOf "_law_text" "_law_text" (defArgs s__law_text) (defBody s__law_text) (defScope s__law_text) .none kV12 dc12 pm12 an12 cd12 ct12), sl12⟩) (c12 : PySem.W.codeIn K cd12 "_law_text" = true) (k12 : PySem.W.keepIn K (.ref f12) = true)
    {od13 an13 : Option Addr} {sl13 : Array (Option Value)} {oc13 kV13 dc13 pm13 cd13 ct13 : Value}
    (a13 : PySem.W.nsIn K mainGlobals "law" = some (some (.ref f13))) (l13 : K.lookup f13 = some ⟨oc13, od13, .func (PySem.W.fnOf "law" "law" (defArgs s_law) (defBody s_law) (defScope s_law) .none kV13 dc13 pm13 an13 cd13 ct13), sl13⟩) (c13 : PySem.W.codeIn K cd13 "law" = true) (k13 : PySem.W.keepIn K (.ref f13) = true)
    (z0 : PySem.W.nsIn K mainGlobals "bool" = some none)
    (z1 : PySem.W.nsIn K mainGlobals "enumerate" = some none)
    (z2 : PySem.W.nsIn K mainGlobals "int" = some none)
    (z3 : PySem.W.nsIn K mainGlobals "isinstance" = some none)
    (z4 : PySem.W.nsIn K mainGlobals "len" = some none)
    (z5 : PySem.W.nsIn K mainGlobals "list" = some none)
    (z6 : PySem.W.nsIn K mainGlobals "range" = some none)
    (z7 : PySem.W.nsIn K mainGlobals "str" = some none)
    (z8 : PySem.W.nsIn K mainGlobals "tuple" = some none)
    (z9 : PySem.W.nsIn K mainGlobals "zip" = some none)
    {tk_FIGURES : Tok} (gc_FIGURES : PySem.W.nsIn K mainGlobals "FIGURES" = some (some (.str "0123456789" tk_FIGURES)))
    {tk_LEAST_WHEEL : Tok} (gc_LEAST_WHEEL : PySem.W.nsIn K mainGlobals "LEAST_WHEEL" = some (some (.int 2 tk_LEAST_WHEEL)))
    {tk_MOST_FIGURES : Tok} (gc_MOST_FIGURES : PySem.W.nsIn K mainGlobals "MOST_FIGURES" = some (some (.int 4 tk_MOST_FIGURES)))
    {tk_MOST_ROWS : Tok} (gc_MOST_ROWS : PySem.W.nsIn K mainGlobals "MOST_ROWS" = some (some (.int 20 tk_MOST_ROWS)))
    {tk_MOST_SHEETS : Tok} (gc_MOST_SHEETS : PySem.W.nsIn K mainGlobals "MOST_SHEETS" = some (some (.int 12 tk_MOST_SHEETS)))
    {tk_MOST_WHEEL : Tok} (gc_MOST_WHEEL : PySem.W.nsIn K mainGlobals "MOST_WHEEL" = some (some (.int 100 tk_MOST_WHEEL)))
    {dP : Addr} {nP : Nat} {hP0 hP1 hP2 hP3 hP4 hP5 : Int} {tP0 tP1 tP2 tP3 tP4 tP5 : Tok} {uP0 uP1 uP2 uP3 uP4 uP5 : Addr} (gc_PARTS : PySem.W.nsIn K mainGlobals "PARTS" = some (some (.ref dP))) (gdl : K.lookup dP = some ⟨.type "dict", none, .dict #[⟨hP0, .str "set" tP0, .ref uP0⟩, ⟨hP1, .str "add" tP1, .ref uP1⟩, ⟨hP2, .str "jump" tP2, .ref uP2⟩, ⟨hP3, .str "say" tP3, .ref uP3⟩, ⟨hP4, .str "take" tP4, .ref uP4⟩, ⟨hP5, .str "end" tP5, .ref uP5⟩] nP, #[]⟩) (gdk : PySem.W.KeysLit w.params [⟨hP0, .str "set" tP0, .ref uP0⟩, ⟨hP1, .str "add" tP1, .ref uP1⟩, ⟨hP2, .str "jump" tP2, .ref uP2⟩, ⟨hP3, .str "say" tP3, .ref uP3⟩, ⟨hP4, .str "take" tP4, .ref uP4⟩, ⟨hP5, .str "end" tP5, .ref uP5⟩]) (gdo : (dP == sysModules) = false)
    {tq00 tq01 : Tok} {fq0 : Option Addr} {lq0 : Array (Option Value)} {nq0 : Nat} (gt0 : K.lookup uP0 = some ⟨.type "tuple", fq0, .seq #[.str "sheet" tq00, .str "number" tq01] nq0, lq0⟩)
    {tq10 tq11 : Tok} {fq1 : Option Addr} {lq1 : Array (Option Value)} {nq1 : Nat} (gt1 : K.lookup uP1 = some ⟨.type "tuple", fq1, .seq #[.str "sheet" tq10, .str "sheet" tq11] nq1, lq1⟩)
    {tq20 tq21 : Tok} {fq2 : Option Addr} {lq2 : Array (Option Value)} {nq2 : Nat} (gt2 : K.lookup uP2 = some ⟨.type "tuple", fq2, .seq #[.str "sheet" tq20, .str "row" tq21] nq2, lq2⟩)
    {tq30 : Tok} {fq3 : Option Addr} {lq3 : Array (Option Value)} {nq3 : Nat} (gt3 : K.lookup uP3 = some ⟨.type "tuple", fq3, .seq #[.str "sheet" tq30] nq3, lq3⟩)
    {tq40 : Tok} {fq4 : Option Addr} {lq4 : Array (Option Value)} {nq4 : Nat} (gt4 : K.lookup uP4 = some ⟨.type "tuple", fq4, .seq #[.str "sheet" tq40] nq4, lq4⟩)
    {fq5 : Option Addr} {lq5 : Array (Option Value)} {nq5 : Nat} (gt5 : K.lookup uP5 = some ⟨.type "tuple", fq5, .seq #[] nq5, lq5⟩)
    : ∃ fd : FuncData, (∀ (s : Shared) (v : Value), BindsTo s fd ⟨[v], []⟩ [("script", v)]) ∧ ∀ base : Heap, K.In base → base.Ns mainGlobals mg → FnOk l.prog w K mg base CX0 6 fa fd ["script"] (spLaw K) := by
  have ktup0 : KTup K uP0 [.str "sheet", .str "number"] := ⟨⟨_, _, _, gt0, rfl, rfl, by show 2 ≤ sizeLine; decide, .cons ⟨tq00, rfl⟩ (.cons ⟨tq01, rfl⟩ (.nil))⟩⟩
  have ktup1 : KTup K uP1 [.str "sheet", .str "sheet"] := ⟨⟨_, _, _, gt1, rfl, rfl, by show 2 ≤ sizeLine; decide, .cons ⟨tq10, rfl⟩ (.cons ⟨tq11, rfl⟩ (.nil))⟩⟩
  have ktup2 : KTup K uP2 [.str "sheet", .str "row"] := ⟨⟨_, _, _, gt2, rfl, rfl, by show 2 ≤ sizeLine; decide, .cons ⟨tq20, rfl⟩ (.cons ⟨tq21, rfl⟩ (.nil))⟩⟩
  have ktup3 : KTup K uP3 [.str "sheet"] := ⟨⟨_, _, _, gt3, rfl, rfl, by show 1 ≤ sizeLine; decide, .cons ⟨tq30, rfl⟩ (.nil)⟩⟩
  have ktup4 : KTup K uP4 [.str "sheet"] := ⟨⟨_, _, _, gt4, rfl, rfl, by show 1 ≤ sizeLine; decide, .cons ⟨tq40, rfl⟩ (.nil)⟩⟩
  have ktup5 : KTup K uP5 [] := ⟨⟨_, _, _, gt5, rfl, rfl, by show 0 ≤ sizeLine; decide, .nil⟩⟩
  have T : Tx K mg w := ⟨def_mk X G a0 l0 c0 k0 (fun _ _ _ _ _ _ us hl => match us, hl with | [_], _ => rfl), def_mk X G a1 l1 c1 k1 (fun _ _ _ _ _ _ us hl => match us, hl with | [_], _ => rfl), def_mk X G a2 l2 c2 k2 (fun _ _ _ _ _ _ us hl => match us, hl with | [_], _ => rfl), def_mk X G a3 l3 c3 k3 (fun _ _ _ _ _ _ us hl => match us, hl with | [_, _], _ => rfl), def_mk X G a4 l4 c4 k4 (fun _ _ _ _ _ _ us hl => match us, hl with | [_], _ => rfl), def_mk X G a5 l5 c5 k5 (fun _ _ _ _ _ _ us hl => match us, hl with | [_], _ => rfl), def_mk X G a6 l6 c6 k6 (fun _ _ _ _ _ _ us hl => match us, hl with | [_], _ => rfl), def_mk X G a7 l7 c7 k7 (fun _ _ _ _ _ _ us hl => match us, hl with | [_, _], _ => rfl), def_mk X G a8 l8 c8 k8 (fun _ _ _ _ _ _ us hl => match us, hl with | [_, _, _, _, _], _ => rfl), def_mk X G a9 l9 c9 k9 (fun _ _ _ _ _ _ us hl => match us, hl with | [_, _], _ => rfl), def_mk X G a11 l11 c11 k11 (fun _ _ _ _ _ _ us hl => match us, hl with | [_, _], _ => rfl), def_mk X G a12 l12 c12 k12 (fun _ _ _ _ _ _ us hl => match us, hl with | [_], _ => rfl), def_mk X G a13 l13 c13 k13 (fun _ _ _ _ _ _ us hl => match us, hl with | [_], _ => rfl), PySem.W.mg_none_of X G z0, PySem.W.mg_none_of X G z1, PySem.W.mg_none_of X G z2, PySem.W.mg_none_of X G z3, PySem.W.mg_none_of X G z4, PySem.W.mg_none_of X G z5, PySem.W.mg_none_of X G z6, PySem.W.mg_none_of X G z7, PySem.W.mg_none_of X G z8, PySem.W.mg_none_of X G z9, ⟨_, PySem.W.mg_of X G gc_FIGURES⟩, ⟨_, PySem.W.mg_of X G gc_LEAST_WHEEL⟩, ⟨_, PySem.W.mg_of X G gc_MOST_FIGURES⟩, ⟨_, PySem.W.mg_of X G gc_MOST_ROWS⟩, ⟨_, PySem.W.mg_of X G gc_MOST_SHEETS⟩, ⟨_, PySem.W.mg_of X G gc_MOST_WHEEL⟩, kparts_mk (PySem.W.mg_of X G gc_PARTS) gdl gdk gdo ktup0 ktup1 ktup2 ktup3 ktup4 ktup5⟩
  have e := hfa.symm.trans (PySem.W.mg_of X G a13)
  cases e
  exact ⟨PySem.W.fnOf "law" "law" (defArgs s_law) (defBody s_law) (defScope s_law) .none kV13 dc13 pm13 an13 cd13 ct13, fun s v => .of_eq rfl, fun base _ _ => all_ok T (fun_mk (st := s_law) l13 c13 k13)⟩
end L52
open PySem PySem.W PyProof.Rows in
set_option maxRecDepth 100000 in
set_option maxHeartbeats 0 in
theorem PySem.Challenge.cw_warmove_k52_programs_written_holds : PySem.Challenge.rw_warmove_k52_programs_written.Holds := by
  w_on; o_law; k_head; (case hw => w_witness2)
  k_fill
  refine L2.walk_of (l := PySem.Challenge.rw_warmove_k52_programs_written) (n := 63) (k := 6) (x := "script") (CX := fun _ => L2.CX0) (sp := fun w => GL.spLaw _) rfl (by decide) rfl ⟨rfl, by decide, by decide⟩ (fun w h Y => PySem.W.kIn_of Y) ?F (fun _ _ a ns hl _ hS => ⟨a, ns, rfl, hS, hl, fun _ => rfl⟩) (fun _ _ _ _ _ h => h)
  case F =>
    intro w mg fa h KX G hmg
    refine' L52.all_mk KX G hmg ?a0 ?l0 ?c0 ?k0 ?a1 ?l1 ?c1 ?k1 ?a2 ?l2 ?c2 ?k2 ?a3 ?l3 ?c3 ?k3 ?a4 ?l4 ?c4 ?k4 ?a5 ?l5 ?c5 ?k5 ?a6 ?l6 ?c6 ?k6 ?a7 ?l7 ?c7 ?k7 ?a8 ?l8 ?c8 ?k8 ?a9 ?l9 ?c9 ?k9 ?a11 ?l11 ?c11 ?k11 ?a12 ?l12 ?c12 ?k12 ?a13 ?l13 ?c13 ?k13 ?z0 ?z1 ?z2 ?z3 ?z4 ?z5 ?z6 ?z7 ?z8 ?z9 ?gc_FIGURES ?gc_LEAST_WHEEL ?gc_MOST_FIGURES ?gc_MOST_ROWS ?gc_MOST_SHEETS ?gc_MOST_WHEEL ?gc_PARTS ?gdl ?gdk ?gdo ?gt0 ?gt1 ?gt2 ?gt3 ?gt4 ?gt5
    (case a0 => k_is)
    (case l0 => k_is)
    (case c0 => k_is)
    (case k0 => k_is)
    (case a1 => k_is)
    (case l1 => k_is)
    (case c1 => k_is)
    (case k1 => k_is)
    (case a2 => k_is)
    (case l2 => k_is)
    (case c2 => k_is)
    (case k2 => k_is)
    (case a3 => k_is)
    (case l3 => k_is)
    (case c3 => k_is)
    (case k3 => k_is)
    (case a4 => k_is)
    (case l4 => k_is)
    (case c4 => k_is)
    (case k4 => k_is)
    (case a5 => k_is)
    (case l5 => k_is)
    (case c5 => k_is)
    (case k5 => k_is)
    (case a6 => k_is)
    (case l6 => k_is)
    (case c6 => k_is)
    (case k6 => k_is)
    (case a7 => k_is)
    (case l7 => k_is)
    (case c7 => k_is)
    (case k7 => k_is)
    (case a8 => k_is)
    (case l8 => k_is)
    (case c8 => k_is)
    (case k8 => k_is)
    (case a9 => k_is)
    (case l9 => k_is)
    (case c9 => k_is)
    (case k9 => k_is)
    (case a11 => k_is)
    (case l11 => k_is)
    (case c11 => k_is)
    (case k11 => k_is)
    (case a12 => k_is)
    (case l12 => k_is)
    (case c12 => k_is)
    (case k12 => k_is)
    (case a13 => k_is)
    (case l13 => k_is)
    (case c13 => k_is)
    (case k13 => k_is)
    (case z0 => k_is)
    (case z1 => k_is)
    (case z2 => k_is)
    (case z3 => k_is)
    (case z4 => k_is)
    (case z5 => k_is)
    (case z6 => k_is)
    (case z7 => k_is)
    (case z8 => k_is)
    (case z9 => k_is)
    (case gc_FIGURES => k_is)
    (case gc_LEAST_WHEEL => k_is)
    (case gc_MOST_FIGURES => k_is)
    (case gc_MOST_ROWS => k_is)
    (case gc_MOST_SHEETS => k_is)
    (case gc_MOST_WHEEL => k_is)
    (case gc_PARTS => k_is)
    (case gdl => k_is)
    (case gdk => k_keys)
    (case gdo => decide)
    (case gt0 => k_is)
    (case gt1 => k_is)
    (case gt2 => k_is)
    (case gt3 => k_is)
    (case gt4 => k_is)
    (case gt5 => k_is)
#print axioms PySem.Challenge.cw_warmove_k52_programs_written_holds

